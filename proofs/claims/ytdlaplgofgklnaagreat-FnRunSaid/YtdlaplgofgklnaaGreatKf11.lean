/- WHAT IS PROVED: an abstract walker over the model, what some functions of the program answer, and laws of these answers. Conditions: none. -/
import Derived.Test.YtdlaplgofgklnaaGreatKf9
import Derived.Test.YtdlaplgofgklnaaGreatKf10
namespace Go.Proofs.YtdlaplgofgklnaaGreat
open Go.Proofs Go.Proofs.YtdlaplgofgklnaaGreat.L
set_option maxHeartbeats 8000000
set_option linter.unusedSimpArgs false
set_option linter.unusedVariables false
set_option maxRecDepth 100000
set_option linter.defProp false
def spec_l06Do_v2F2c1n0 (k : Nat) (p0 : Int) (p1 : (List Int)) (p2 : GState) : Option (GI2 × GState) :=
  (spec_l03Binary p0).bind fun t1 => cond t1 ((idx p1 0).bind fun m2 => (idx p1 1).bind fun m3 => (spec_Binary k p0 m2 m3).bind fun t4 => some (t4, p2)) ((spec_l03Unary p0).bind fun t5 => cond t5 ((idx p1 0).bind fun m6 => (spec_Unary p0 m6).bind fun t7 => some (t7, p2)) (cond ((p0 == 34)) (cond ((decide (((p2.heap.length : Int)) ≥ 30))) (some ((⟨0, 14⟩ : GI2), p2)) ((idx p1 0).bind fun m8 => cond ((decide (m8 < 0))) (some ((⟨0, 14⟩ : GI2), p2)) (cond ((decide (m8 > 50))) (some ((⟨0, 14⟩ : GI2), p2)) (gd (0 ≤ m8 ∧ m8 * 8 ≤ 35184372088832 ∧ m8 ≤ 35184372088832) (gd ((p2.heap.length + 1) * 24 ≤ 35184372088832 ∧ p2.heap.length + 1 ≤ 35184372088832) (some ((⟨(((p2.heap ++ [(List.replicate m8.toNat 0)])).length : Int), 0⟩ : GI2), (⟨p2.frames, (p2.heap ++ [(List.replicate m8.toNat 0)]), p2.out, p2.fuel0, p2.done, p2.value, p2.trap⟩ : GState)))))))) ((idx p1 0).bind fun m9 => cond ((decide (m9 < 1)) || (decide (m9 > (p2.heap.length : Int)))) ((spec_l06Array_vK0 p2.heap m9).bind fun t10 => some ((⟨0, 13⟩ : GI2), p2)) ((idx p2.heap (IntKind.i64.wrap (m9 - 1))).bind fun m11 => (spec_l06Array_vO0 p2.heap m9).bind fun t12 => cond ((p0 == 37)) (some ((⟨(m11.length : Int), 0⟩ : GI2), (⟨p2.frames, (p2.heap.set (((IntKind.i64.wrap (m9 - 1))).toNat) m11), p2.out, p2.fuel0, p2.done, p2.value, p2.trap⟩ : GState))) ((idx p1 1).bind fun m13 => cond ((decide (m13 < 0))) (some ((⟨0, 12⟩ : GI2), (⟨p2.frames, (p2.heap.set (((IntKind.i64.wrap (m9 - 1))).toNat) m11), p2.out, p2.fuel0, p2.done, p2.value, p2.trap⟩ : GState))) (cond ((decide (m13 ≥ ((m11.length : Int))))) (some ((⟨0, 12⟩ : GI2), (⟨p2.frames, (p2.heap.set (((IntKind.i64.wrap (m9 - 1))).toNat) m11), p2.out, p2.fuel0, p2.done, p2.value, p2.trap⟩ : GState))) (cond ((p0 == 36)) ((idx p1 2).bind fun m14 => (idx m11 m13).bind fun m15 => some ((⟨0, 0⟩ : GI2), (⟨p2.frames, (p2.heap.set (((IntKind.i64.wrap (m9 - 1))).toNat) (m11.set m13.toNat m14)), p2.out, p2.fuel0, p2.done, p2.value, p2.trap⟩ : GState))) ((idx m11 m13).bind fun m16 => some ((⟨m16, 0⟩ : GI2), (⟨p2.frames, (p2.heap.set (((IntKind.i64.wrap (m9 - 1))).toNat) m11), p2.out, p2.fuel0, p2.done, p2.value, p2.trap⟩ : GState))))))))))
theorem c_spec_l06Do_v2F2c1n0 {k : Nat} {p0 : Int} {p1 : (List Int)} {p2 : GState} {r : GI2 × GState} (h : spec_l06Do_v2F2c1n0 k p0 p1 p2 = some r) : Con Tryz.prog 88 [V.int p0, .d (.row .bor 1 (Rw (cI .i64) p1)), .mp 0 7 0 1] [.o 7 [[.sl 1 4 0 p2.frames.length, .d (.row .own 1 (Rw (cL .own 1 (cI .i64)) p2.heap)), .d (.row .own 1 (Rw (cI .i64) p2.out)), V.int p2.fuel0, V.bool p2.done, V.int p2.value, V.int p2.trap]], .o 4 (dd (Rw (GFrame.cells .own) p2.frames))] (.agg [V.int r.1.a, V.int r.1.b]) [.o 7 [[.sl 1 4 0 p2.frames.length, .d (.row .own 1 (Rw (cL .own 1 (cI .i64)) r.2.heap)), .d (.row .own 1 (Rw (cI .i64) r.2.out)), V.int r.2.fuel0, V.bool r.2.done, V.int r.2.value, V.int r.2.trap]], .o 4 (dd (Rw (GFrame.cells .own) p2.frames))] := by
  refine csw Tryz.func88 Tryz.call88 (by simp [Tryz.ntmps88]) (h := ?_)
  rw [Tryz.ntmps88, Tryz.results88]
  unfold spec_l06Do_v2F2c1n0 at h
  replace h := Yes.mk h
  simp only [entryS, entryO, Nat.reduceAdd, List.length_nil, List.length_cons]
  repeat' (first
 | (with_reducible refine here_reg (i := 10) ?_
    refine sw_gh ?_
    with_reducible apply gh_nameCell 0 1
    · simp only [lkd, lkb, reduceCtorEq, Nat.reduceEqDiff]; rfl
    · rfl
    simp only [List.set_cons_zero, List.set_cons_succ, Nat.reduceAdd, Rw_length]
    refine gh_sw ?_)
 | (with_reducible refine here_reg (i := 10) ?_
    (try (revert h; (first | ((with_reducible refine idx_elim ?_); intro m hm1 hm2 hm3 h; (try (simp only [Int.reduceToNat] at hm3)); (try (revert hm3; (with_reducible apply same_elim); (focus (with_reducible assumption)); rintro rfl)); (try (simp only [List.length_set, List.length_cons, List.length_nil, List.length_replicate, Nat.reduceAdd, Int.cast_ofNat_Int, Nat.zero_add, List.length_append] at hm2))) | (with_reducible refine sidx_elim ?_; intro m hm1 hm3 h) | (with_reducible refine gd_elim ?_; intro hg h; try (have hg2 := hg.2; have hg := hg.1; (try (simp only [Nat.reduceLeDiff] at hg2)); (try (revert hg2; (with_reducible refine toNat_elim hg ?_); intro hg2 hg4)); try (have hg3 := hg2.2; have hg2 := hg2.1; (try (simp only [Nat.reduceLeDiff] at hg3))))) | (with_reducible refine condt_elim ?_ ?_; (focus (with_reducible assumption)); intro h) | (with_reducible refine condf_elim ?_ ?_; (focus (with_reducible assumption)); intro h))))
    revert h
    with_reducible refine cond_split (fun hcs h => ?_) (fun hcs h => ?_)
    rotate_left
    revert h; (first | ((with_reducible refine idx_elim ?_); intro m hm1 hm2 hm3 h; (try (simp only [Int.reduceToNat] at hm3)); (try (revert hm3; (with_reducible apply same_elim); (focus (with_reducible assumption)); rintro rfl)); (try (simp only [List.length_set, List.length_cons, List.length_nil, List.length_replicate, Nat.reduceAdd, Int.cast_ofNat_Int, Nat.zero_add, List.length_append] at hm2))) | (with_reducible refine sidx_elim ?_; intro m hm1 hm3 h) | (with_reducible refine gd_elim ?_; intro hg h; try (have hg2 := hg.2; have hg := hg.1; (try (simp only [Nat.reduceLeDiff] at hg2)); (try (revert hg2; (with_reducible refine toNat_elim hg ?_); intro hg2 hg4)); try (have hg3 := hg2.2; have hg2 := hg2.1; (try (simp only [Nat.reduceLeDiff] at hg3))))) | (with_reducible refine condt_elim ?_ ?_; (focus (with_reducible assumption)); intro h) | (with_reducible refine condf_elim ?_ ?_; (focus (with_reducible assumption)); intro h))
    refine sw_gh ?_
    with_reducible apply gh_nameRowL 642
    · simp only [lkd, lkb, reduceCtorEq, Nat.reduceEqDiff]; rfl
    · assumption
    · rfl
    simp only [Nat.reduceAdd, Rw_length]
    refine gh_sw ?_)
 | (with_reducible (first | refine sw_reg ?_ | refine sw_ret ?_ | refine sw_skip ?_ | refine sw_block ?_ | refine sw_exit ?_ | refine seqQ_normal ?_ | refine blockQ_normal ?_ | refine blockQ_ret ?_ | refine blockQ_this ?_ | refine blockQ_other (by decide) ?_ | refine regW_nil ?_ | refine sw_draw mixed ?_ | refine retQ_ret ?_ | refine retQ_normal ?_))
 | (with_reducible refine regD_nil ?_
    refine ⟨by kernel_rfl, ?_⟩)
 | (revert h; (first | ((with_reducible refine idx_elim ?_); intro m hm1 hm2 hm3 h; (try (simp only [Int.reduceToNat] at hm3)); (try (revert hm3; (with_reducible apply same_elim); (focus (with_reducible assumption)); rintro rfl)); (try (simp only [List.length_set, List.length_cons, List.length_nil, List.length_replicate, Nat.reduceAdd, Int.cast_ofNat_Int, Nat.zero_add, List.length_append] at hm2))) | (with_reducible refine sidx_elim ?_; intro m hm1 hm3 h) | (with_reducible refine gd_elim ?_; intro hg h; try (have hg2 := hg.2; have hg := hg.1; (try (simp only [Nat.reduceLeDiff] at hg2)); (try (revert hg2; (with_reducible refine toNat_elim hg ?_); intro hg2 hg4)); try (have hg3 := hg2.2; have hg2 := hg2.1; (try (simp only [Nat.reduceLeDiff] at hg3))))) | (with_reducible refine condt_elim ?_ ?_; (focus (with_reducible assumption)); intro h) | (with_reducible refine condf_elim ?_ ?_; (focus (with_reducible assumption)); intro h)))
 | with_reducible refine sw_seq ?_
 | with_reducible refine seqQ_ret ?_
 | with_reducible refine seqQ_exit ?_
 | (with_reducible refine here_retw ?_
    with_reducible apply gh_resRow 642
    · simp only [lkd, lkb, reduceCtorEq, Nat.reduceEqDiff]; rfl
    · first | (simp only [Rw_length, List.length_set]; omega) | (simp [Rw_length]; omega)
    simp only [rxb, Nat.reduceAdd, Nat.reduceLeDiff, rxd, lkd, lkb, reduceCtorEq, Nat.reduceEqDiff, mmb, GI2_Dset, GFrame_Dset, GState_Dset, LcIi64_Dset, *])
 | (with_reducible refine here_retw ?_
    with_reducible apply gh_resSl 0 1
    · simp only [lkd, lkb, reduceCtorEq, Nat.reduceEqDiff]; rfl
    · rfl
    simp only [rxb, Nat.reduceAdd, Nat.reduceLeDiff, rxd, lkd, lkb, reduceCtorEq, Nat.reduceEqDiff, *])
 | ((with_reducible refine wp_ite ?_ ?_)
    all_goals (intro hc; (try (simp only [Bool.not_eq_true, Bool.not_eq_false] at hc)); simp only [hc]))
 | (with_reducible refine rskip (hs := ?_) (h2 := ?_)
    · simp only [lkd, lkb, reduceCtorEq, Nat.reduceEqDiff]; done)
 | (with_reducible refine ryes (hs := ?_) (h := ?_)
    · simp only [lkd, lkb, reduceCtorEq, Nat.reduceEqDiff]; done)
 | (with_reducible refine rno (hs := ?_) (h := ?_)
    · simp only [lkd, lkb, reduceCtorEq, Nat.reduceEqDiff, Bool.not_true, Bool.not_false]; done)
 | (with_reducible apply regW_guardN
    · simp only [dstOk, Nat.reduceLT]
    · rfl
    · simp only [lkd, lkb, reduceCtorEq, Nat.reduceEqDiff]; rfl
    all_goals (intro hc; (try (simp only [Bool.not_true, Bool.not_false] at hc))))
 | (with_reducible apply sw_cond
    · simp only [lkd, lkb, reduceCtorEq, Nat.reduceEqDiff]; rfl
    all_goals (intro hc; try (cases hc; done)))
 | ((first
     | ((with_reducible refine gh_ret ?_)
        revert h
        with_reducible refine some_elim ?_
        rintro rfl)
     | (with_reducible refine here_call ?_
        revert h
        with_reducible refine bind_elim ?_
        intro t ht h
        (first
          | ((with_reducible refine here_call (f := 123) ?_)
             refine call_dataE (c_spec_l03Binary ht) ?_ rfl ?_
             · first | rfl | (simp; done))
          | ((with_reducible refine here_call (f := 124) ?_)
             refine call_dataE (c_spec_l03Unary ht) ?_ rfl ?_
             · first | rfl | (simp; done))
          | ((with_reducible refine here_call (f := 125) ?_)
             refine call_dataE (c_spec_Binary ht) ?_ rfl ?_
             · first | rfl | (simp; done))
          | ((with_reducible refine here_call (f := 126) ?_)
             refine call_dataE (c_spec_Unary ht) ?_ rfl ?_
             · first | rfl | (simp; done))
          | ((with_reducible refine here_call (f := 127) ?_)
             refine call_autoE (c_spec_l06Array_vK0 ht) ?_ ?_ ?_
             · simp only [hyb, hyd, GI2_lend, GFrame_lend, GState_lend, LcIi64_lend, renLL_ddset, List.take_of_length_le, lkd, lkb, reduceCtorEq, Nat.reduceEqDiff, *]; first | rfl | done
             · first | rfl | (simp only [nbd, nbb, GI2_nb, GFrame_nb, GState_nb, LcIi64_nb]; done)
             simp only [V.namesOf, V.namesOfL, List.foldl_cons, List.foldl_nil, List.nil_append, List.append_nil, List.cons_append])
          | ((with_reducible refine here_call (f := 127) ?_)
             refine call_obj [642, 706] (c_spec_l06Array_vO0 (by assumption) (by assumption) (by assumption) ht) (by decide) ?_ ?_
             · first | exact .inl rfl | (refine .inr ⟨?_, ?_⟩; (focus (first | rfl | (simp only [nbd, nbb, GI2_nb, GFrame_nb, GState_nb, LcIi64_nb]; done))); (focus (simp [C.nb, V.nbLL, V.nbL, V.nb, D.nb]; done)))
             simp only [obd, hyb, hyd, GI2_lend, GFrame_lend, GState_lend, LcIi64_lend, renLL_ddset, lkd, lkb, reduceCtorEq, Nat.reduceEqDiff, Prog.wp, Prog.wp_bind, Prog.bind, Prog.ofO, List.take_of_length_le, *])))
     | (with_reducible (first | refine ropD (h := ?_) | refine ropW (h := ?_))
        intro k hk)
     | skip)
    simp only [bn, lkb, evb, evd, Value.oneCell', setSeg, reduceCtorEq, Nat.reduceAdd, Nat.reduceMul, Nat.reduceSub, Nat.reduceLT, Nat.reduceLeDiff, Nat.reduceEqDiff, Int.reduceNeg, Int.reduceToNat, ty2, ty3, ty4, ty27, ty28, ty120, ty126, GFrame.cells, GI2.cells, GState.cells, cI, cB, cS, cL, GI2_e, GFrame_e, GState_e, LcIi64_e, buildP, buildSliceP, putParts, structPlaces, chunks, List.replicate, List.flatten_nil, List.flatten_cons, Option.bind_some, bb, LcIi64_b, nilEqP, ne_eq, not_false_eq_true, not_true_eq_false, *]
    try (refine hk.use _ _ _ _ ?_; clear hk k))
 | fail)
  all_goals (try rfl)
  all_goals (try (simp; done))
  all_goals (try (simp_all; done))
set_option linter.defProp false
def impl_InsRight.a2 (k : Nat) (a1 : (List GFunc)) (a2 : GI2) (a3 : Int) (a4 : Int) : Option ((List GFunc) × GI2 × Int × Int × Bool) :=
  cond ((a4 == 2)) (some (a1, a2, a3, a4, true)) (some (a1, a2, a3, a4, (a4 == 3)))
def impl_InsRight.a3 (k : Nat) (a1 : (List GFunc)) (a2 : GI2) (a3 : Int) (a4 : Int) : Option ((List GFunc) × GI2 × Int × Int × Bool) :=
  cond ((a4 == 30)) (some (a1, a2, a3, a4, true)) (some (a1, a2, a3, a4, (a4 == 31)))
def impl_InsRight.a1 (k : Nat) (a1 : (List GFunc)) (a2 : GI2) (a3 : Int) : Option ((Bool) ⊕ (GI2)) :=
  cond ((a2.a == 1)) (some (.inl (true))) ((impl_InsRight.a2 k a1 a2 a3 a2.a).bind fun o2 => cond o2.2.2.2.2 (cond ((decide (o2.2.1.b ≥ 0))) ((idx o2.1 o2.2.2.1).bind fun m2 => some (.inl ((decide (o2.2.1.b < m2.locals))))) (some (.inl (false)))) ((impl_InsRight.a3 k o2.1 o2.2.1 o2.2.2.1 o2.2.2.2.1).bind fun o3 => cond o3.2.2.2.2 (cond ((decide (o3.2.1.b ≥ 0))) ((idx o3.1 o3.2.2.1).bind fun m3 => some (.inl ((decide (o3.2.1.b < ((m3.code.length : Int))))))) (some (.inl (false)))) (cond ((o3.2.2.2.1 == 32)) ((impl_hasFunc ((⟨o3.1⟩ : GProgram)) o3.2.1.b).bind fun t4 => some (.inl (t4))) (some (.inr (o3.2.1))))))
def impl_InsRight (k : Nat) (p0 : GProgram) (p1 : Int) (p2 : GI2) : Option (Bool) :=
  (impl_hasFunc p0 p1).bind fun t1 => cond ((!t1)) (some false) ((impl_InsRight.a1 k p0.funcs p2 p1).bind fun o1 => Sum.elim (fun o1l => some o1l) (fun o1r => (impl_OpName o1r.a).bind fun t5 => cond ((!(t5.toList == ((⟨#[]⟩ : ByteArray)).toList))) (some ((o1r.b == 0))) (some false)) o1)
def impl_Puts (p0 : GI2) : Option (Int) :=
  cond ((p0.a == 4)) (some 2) (cond ((p0.a == 1)) (some 1) (cond ((p0.a == 2)) (some 1) (cond ((p0.a == 32)) (some 1) (cond ((p0.a == 34)) (some 1) (cond ((p0.a == 35)) (some 1) (cond ((p0.a == 37)) (some 1) ((impl_isArith p0.a).bind fun t1 => cond t1 (some 1) (some 0))))))))
def impl_State_world (k : Nat) (p0 : GState) : Option (Gworld) :=
  (impl_copies k p0.heap).bind fun t1 => (slices_Clone_int64_int64 p0.out).bind fun t2 => some ((⟨t1, t2, p0.fuel0, p0.done, p0.value, p0.trap⟩ : Gworld))
def impl_Takes.a2 (k : Nat) (a1 : (List GFunc)) (a2 : GI2) : Option ((List GFunc) × GI2 × Bool) :=
  (impl_isBinary a2.a).bind fun t1 => cond t1 (some (a1, a2, true)) (some (a1, a2, (a2.a == 35)))
def impl_Takes.a1 (k : Nat) (a1 : (List GFunc)) (a2 : GI2) : Option ((Int) ⊕ (GI2)) :=
  (impl_Takes.a2 k a1 a2).bind fun o2 => cond o2.2.2 (some (.inl (2))) (cond ((o2.2.1.a == 36)) (some (.inl (3))) (cond ((o2.2.1.a == 32)) ((impl_hasFunc ((⟨o2.1⟩ : GProgram)) o2.2.1.b).bind fun t2 => cond t2 ((idx o2.1 o2.2.1.b).bind fun m3 => some (.inl (m3.args))) (some (.inl (0)))) ((impl_isUnary o2.2.1.a).bind fun t4 => cond t4 (some (.inl (1))) (some (.inr (o2.2.1))))))
def impl_Takes (k : Nat) (p0 : GProgram) (p1 : GI2) : Option (Int) :=
  (impl_Takes.a1 k p0.funcs p1).bind fun o1 => Sum.elim (fun o1l => some o1l) (fun o1r => cond ((o1r.a == 3)) (some 1) (cond ((o1r.a == 4)) (some 1) (cond ((o1r.a == 5)) (some 1) (cond ((o1r.a == 31)) (some 1) (cond ((o1r.a == 33)) (some 1) (cond ((o1r.a == 34)) (some 1) (cond ((o1r.a == 37)) (some 1) (cond ((o1r.a == 38)) (some 1) (some 0))))))))) o1
def impl_arith (k : Nat) (p0 : Int) (p1 : (List Int)) : Option (GI2) :=
  (impl_isBinary p0).bind fun t1 => cond t1 ((idx p1 0).bind fun m2 => (idx p1 1).bind fun m3 => (impl_Binary k p0 m2 m3).bind fun t4 => some t4) ((idx p1 0).bind fun m5 => (impl_Unary p0 m5).bind fun t6 => some t6)
def impl_prog_stands (p0 : Gprog) (p1 : Int) (p2 : Int) (p3 : Int) : Option (Bool) :=
  (impl_prog_reached p0 p1 p2).bind fun t1 => cond ((!t1)) (some false) (cond ((decide (p3 < 0))) (some true) (cond ((decide (p2 > 0))) ((impl_prog_reached p0 p1 ((IntKind.i64.wrap (p2 - 1)))).bind fun t2 => cond t2 ((impl_prog_at p0 p1 ((IntKind.i64.wrap (p2 - 1)))).bind fun t3 => some (((t3.a == 32) && (t3.b == p3)))) (some false)) (some false)))
def impl_sameLists (k : Nat) (p0 : (List (List Int))) (p1 : (List (List Int))) : Option (Bool) :=
  (slices_EqualFunc_int64_int64_int64_int64_vG2Equal k p0 p1).bind fun t1 => some t1
def slices_EqualFunc_impl_Frame_impl_Frame_impl_Frame_impl_Frame_vG2sameFrame.l1 : Nat → (List GFrame) → (List GFrame) → Int → Int → Option ((Bool) ⊕ (Unit))
  | 0, _, _, _, _ => none
  | k + 1, a1, a2, a3, a4 => cond ((decide (a4 < a3))) ((idx a2 a4).bind fun m1 => (idx a1 a4).bind fun m2 => (impl_sameFrame k m1 m2).bind fun t3 => cond ((!t3)) (some (.inl (false))) (slices_EqualFunc_impl_Frame_impl_Frame_impl_Frame_impl_Frame_vG2sameFrame.l1 k a1 a2 a3 ((IntKind.i64.wrap (a4 + 1))))) (some (.inr ()))
def slices_EqualFunc_impl_Frame_impl_Frame_impl_Frame_impl_Frame_vG2sameFrame (k : Nat) (p0 : (List GFrame)) (p1 : (List GFrame)) : Option (Bool) :=
  cond ((((p0.length : Int)) != ((p1.length : Int)))) (some false) ((slices_EqualFunc_impl_Frame_impl_Frame_impl_Frame_impl_Frame_vG2sameFrame.l1 k p1 p0 ((p0.length : Int)) 0).bind fun o1 => Sum.elim (fun o1l => some o1l) (fun o1r => some true) o1)
def spec_StateSame.a1 (k : Nat) (a1 : (List GFrame)) (a2 : (List (List Int))) (a3 : (List Int)) (a4 : Int) (a5 : Bool) (a6 : Int) (a7 : Int) (a8 : (List GFrame)) (a9 : (List (List Int))) (a10 : (List Int)) (a11 : Int) (a12 : Bool) (a13 : Int) (a14 : Int) : Option ((Bool) ⊕ ((List GFrame) × (List (List Int)) × (List Int) × Int × Bool × Int × Int × (List GFrame) × (List (List Int)) × (List Int) × Int × Bool × Int × Int)) :=
  cond ((((a1.length : Int)) != ((a8.length : Int)))) (some (.inl (false))) (cond ((a4 != a11)) (some (.inl (false))) (cond ((!(a5 == a12))) (some (.inl (false))) (cond ((a6 != a13)) (some (.inl (false))) (cond ((a7 != a14)) (some (.inl (false))) ((spec_l06SameHeap k a2 a9).bind fun t1 => cond ((!t1)) (some (.inl (false))) ((spec_l06SameNums k a3 a10).bind fun t2 => cond ((!t2)) (some (.inl (false))) (some (.inr (a1, a2, a3, a4, a5, a6, a7, a8, a9, a10, a11, a12, a13, a14)))))))))
def spec_StateSame.l2 : Nat → (List GFrame) → (List (List Int)) → (List Int) → Int → Bool → Int → Int → (List GFrame) → (List (List Int)) → (List Int) → Int → Bool → Int → Int → Int → Option ((Bool) ⊕ (Unit))
  | 0, _, _, _, _, _, _, _, _, _, _, _, _, _, _, _ => none
  | k + 1, a1, a2, a3, a4, a5, a6, a7, a8, a9, a10, a11, a12, a13, a14, a15 => cond ((decide (a15 < ((a1.length : Int))))) ((idx a1 a15).bind fun m3 => (idx a8 a15).bind fun m4 => cond ((m3.func0 != m4.func0)) (some (.inl (false))) (cond ((m3.pc != m4.pc)) (some (.inl (false))) ((spec_l06SameNums k m3.locals m4.locals).bind fun t5 => cond ((!t5)) (some (.inl (false))) ((spec_l06SameNums k m3.stack m4.stack).bind fun t6 => cond ((!t6)) (some (.inl (false))) (spec_StateSame.l2 k a1 a2 a3 a4 a5 a6 a7 a8 a9 a10 a11 a12 a13 a14 ((IntKind.i64.wrap (a15 + 1)))))))) (some (.inr ()))
def spec_StateSame (k : Nat) (p0 : GState) (p1 : GState) : Option (Bool) :=
  (spec_StateSame.a1 k p0.frames p0.heap p0.out p0.fuel0 p0.done p0.value p0.trap p1.frames p1.heap p1.out p1.fuel0 p1.done p1.value p1.trap).bind fun o1 => Sum.elim (fun o1l => some o1l) (fun o1r => (spec_StateSame.l2 k o1r.1 o1r.2.1 o1r.2.2.1 o1r.2.2.2.1 o1r.2.2.2.2.1 o1r.2.2.2.2.2.1 o1r.2.2.2.2.2.2.1 o1r.2.2.2.2.2.2.2.1 o1r.2.2.2.2.2.2.2.2.1 o1r.2.2.2.2.2.2.2.2.2.1 o1r.2.2.2.2.2.2.2.2.2.2.1 o1r.2.2.2.2.2.2.2.2.2.2.2.1 o1r.2.2.2.2.2.2.2.2.2.2.2.2.1 o1r.2.2.2.2.2.2.2.2.2.2.2.2.2 0).bind fun o2 => Sum.elim (fun o2l => some o2l) (fun o2r => some true) o2) o1
def spec_l01Src_l02Num (k : Nat) (p0 : Gl01Src) : Option (Int × Gl01Src) :=
  (spec_l01Src_n k p0 5).bind fun t1 => cond ((t1.1 == 0)) ((spec_l01Src_edge k t1.2).bind fun t2 => some (t2.1, t2.2)) (cond ((t1.1 == 1)) ((spec_l01Src_n k t1.2 9).bind fun t3 => some ((IntKind.i64.wrap (t3.1 - 4)), t3.2)) (cond ((t1.1 == 2)) ((spec_l01Src_n k t1.2 10).bind fun t4 => (idx ([127, 128, (-128), (-129), 32767, 32768, 65535, 4294967295, 4294967296, (-2147483649)]) t4.1).bind fun m5 => some (m5, t4.2)) ((spec_l01Src_n k t1.2 1099511627776).bind fun t6 => some ((IntKind.i64.wrap (t6.1 - 549755813888)), t6.2))))
def spec_l01Src_l06Fuel (k : Nat) (p0 : Gl01Src) : Option (Int × Gl01Src) :=
  (spec_l01Src_one k p0 20).bind fun t1 => cond t1.1 ((spec_l01Src_n k t1.2 4).bind fun t2 => (idx ([0, (-1), 3000, 3001]) t2.1).bind fun m3 => some (m3, t2.2)) ((spec_l01Src_n k t1.2 300).bind fun t4 => some (t4.1, t4.2))
theorem fl98_impl_prog_stands : flatK Tryz.prog 98 = some [0, 0] := by kernel_rfl
theorem gr14 : (∀ {k : Nat} {p0 : GProgram} {p1 : Int} {p2 : GI2} {r : Bool}, impl_InsRight k p0 p1 p2 = some r → Con Tryz.prog 111 [.agg [.d (.row .bor 3 (Rw (GFunc.cells .bor) p0.funcs))], V.int p1, .agg [V.int p2.a, V.int p2.b]] [] (V.bool r) []) ∧
  (∀ {p0 : GI2} {r : Int}, impl_Puts p0 = some r → Con Tryz.prog 82 [.agg [V.int p0.a, V.int p0.b]] [] (V.int r) []) ∧
  (∀ {k : Nat} {p0 : GState} {r : Gworld}, impl_State_world k p0 = some r → Con Tryz.prog 73 [.agg [.d (.row .bor 4 (Rw (GFrame.cells .bor) p0.frames)), .d (.row .bor 1 (Rw (cL .bor 1 (cI .i64)) p0.heap)), .d (.row .bor 1 (Rw (cI .i64) p0.out)), V.int p0.fuel0, V.bool p0.done, V.int p0.value, V.int p0.trap]] [] (.agg [.d (.row .own 1 (Rw (cL .own 1 (cI .i64)) r.heap)), .d (.row .own 1 (Rw (cI .i64) r.out)), V.int r.fuel0, V.bool r.done, V.int r.value, V.int r.trap]) []) ∧
  (∀ {k : Nat} {p0 : GProgram} {p1 : GI2} {r : Int}, impl_Takes k p0 p1 = some r → Con Tryz.prog 78 [.agg [.d (.row .bor 3 (Rw (GFunc.cells .bor) p0.funcs))], .agg [V.int p1.a, V.int p1.b]] [] (V.int r) []) ∧
  (∀ {k : Nat} {p0 : Int} {p1 : (List Int)} {r : GI2}, impl_arith k p0 p1 = some r → Con Tryz.prog 121 [V.int p0, .d (.row .bor 1 (Rw (cI .i64) p1))] [] (.agg [V.int r.a, V.int r.b]) []) ∧
  (∀ {p0 : Gprog} {p1 : Int} {p2 : Int} {p3 : Int} {r : Bool}, impl_prog_stands p0 p1 p2 p3 = some r → Con Tryz.prog 113 [.d (.ptr .bor [.row .bor 3 (Rw (GFunc.cells .bor) p0.program.funcs), .row .bor 1 (Rw (cL .bor 1 (cI .i64)) p0.h)]), V.int p1, V.int p2, V.int p3] [] (V.bool r) []) ∧
  (∀ {k : Nat} {p0 : (List (List Int))} {p1 : (List (List Int))} {r : Bool}, impl_sameLists k p0 p1 = some r → Con Tryz.prog 44 [.d (.row .bor 1 (Rw (cL .bor 1 (cI .i64)) p0)), .d (.row .bor 1 (Rw (cL .bor 1 (cI .i64)) p1))] [] (V.bool r) []) ∧
  (∀ {k : Nat} {p0 : (List GFrame)} {p1 : (List GFrame)} {r : Bool}, slices_EqualFunc_impl_Frame_impl_Frame_impl_Frame_impl_Frame_vG2sameFrame k p0 p1 = some r → Con Tryz.prog 42 [.d (.row .bor 4 (Rw (GFrame.cells .bor) p0)), .d (.row .bor 4 (Rw (GFrame.cells .bor) p1)), .clo 43 []] [] (V.bool r) []) ∧
  (∀ {k : Nat} {p0 : GState} {p1 : GState} {r : Bool}, spec_StateSame k p0 p1 = some r → Con Tryz.prog 10 [.agg [.d (.row .bor 4 (Rw (GFrame.cells .bor) p0.frames)), .d (.row .bor 1 (Rw (cL .bor 1 (cI .i64)) p0.heap)), .d (.row .bor 1 (Rw (cI .i64) p0.out)), V.int p0.fuel0, V.bool p0.done, V.int p0.value, V.int p0.trap], .agg [.d (.row .bor 4 (Rw (GFrame.cells .bor) p1.frames)), .d (.row .bor 1 (Rw (cL .bor 1 (cI .i64)) p1.heap)), .d (.row .bor 1 (Rw (cI .i64) p1.out)), V.int p1.fuel0, V.bool p1.done, V.int p1.value, V.int p1.trap]] [] (V.bool r) []) ∧
  (∀ {k : Nat} {p0 : Gl01Src} {r : Int × Gl01Src}, spec_l01Src_l02Num k p0 = some r → Con Tryz.prog 134 [.mp 0 4 0 0] [.o 4 [[.d (.row .bor 1 (Rw (cI .u8) p0.b)), V.int p0.at0, .d (.p (.int .u64 p0.mix)), V.int p0.size]]] (V.int r.1) [.o 4 [[.d (.row .bor 1 (Rw (cI .u8) r.2.b)), V.int r.2.at0, .d (.p (.int .u64 r.2.mix)), V.int r.2.size]]]) ∧
  (∀ {k : Nat} {p0 : Gl01Src} {r : Int × Gl01Src}, spec_l01Src_l06Fuel k p0 = some r → Con Tryz.prog 107 [.mp 0 4 0 0] [.o 4 [[.d (.row .bor 1 (Rw (cI .u8) p0.b)), V.int p0.at0, .d (.p (.int .u64 p0.mix)), V.int p0.size]]] (V.int r.1) [.o 4 [[.d (.row .bor 1 (Rw (cI .u8) r.2.b)), V.int r.2.at0, .d (.p (.int .u64 r.2.mix)), V.int r.2.size]]]) := by
  refine ⟨?_, ?_, ?_, ?_, ?_, ?_, ?_, ?_, ?_, ?_, ?_⟩
  all_goals intros
  all_goals rename_i h
  all_goals first
    | (with_reducible refine isf 111 ?_
       refine csw Tryz.func111 Tryz.call111 (by simp [Tryz.ntmps111]) (h := ?_)
       refine mkf 111 fun hF => ?_
       rw [Tryz.ntmps111, Tryz.results111]
       unfold impl_InsRight at h)
    | (with_reducible refine isf 82 ?_
       refine csw Tryz.func82 Tryz.call82 (by simp [Tryz.ntmps82]) (h := ?_)
       refine mkf 82 fun hF => ?_
       rw [Tryz.ntmps82, Tryz.results82]
       unfold impl_Puts at h)
    | (with_reducible refine isf 73 ?_
       refine csw Tryz.func73 Tryz.call73 (by simp [Tryz.ntmps73]) (h := ?_)
       refine mkf 73 fun hF => ?_
       rw [Tryz.ntmps73, Tryz.results73]
       unfold impl_State_world at h)
    | (with_reducible refine isf 78 ?_
       refine csw Tryz.func78 Tryz.call78 (by simp [Tryz.ntmps78]) (h := ?_)
       refine mkf 78 fun hF => ?_
       rw [Tryz.ntmps78, Tryz.results78]
       unfold impl_Takes at h)
    | (with_reducible refine isf 121 ?_
       refine csw Tryz.func121 Tryz.call121 (by simp [Tryz.ntmps121]) (h := ?_)
       refine mkf 121 fun hF => ?_
       rw [Tryz.ntmps121, Tryz.results121]
       unfold impl_arith at h)
    | (with_reducible refine isf 113 ?_
       refine csw Tryz.func113 Tryz.call113 (by simp [Tryz.ntmps113]) (h := ?_)
       refine mkf 113 fun hF => ?_
       rw [Tryz.ntmps113, Tryz.results113]
       unfold impl_prog_stands at h)
    | (with_reducible refine isf 44 ?_
       refine csw Tryz.func44 Tryz.call44 (by simp [Tryz.ntmps44]) (h := ?_)
       refine mkf 44 fun hF => ?_
       rw [Tryz.ntmps44, Tryz.results44]
       unfold impl_sameLists at h)
    | (with_reducible refine isf 42 ?_
       refine csw Tryz.func42 Tryz.call42 (by simp [Tryz.ntmps42]) (h := ?_)
       refine mkf 100101 fun hF => ?_
       rw [Tryz.ntmps42, Tryz.results42]
       unfold slices_EqualFunc_impl_Frame_impl_Frame_impl_Frame_impl_Frame_vG2sameFrame at h)
    | (with_reducible refine isf 10 ?_
       refine csw Tryz.func10 Tryz.call10 (by simp [Tryz.ntmps10]) (h := ?_)
       refine mkf 10 fun hF => ?_
       rw [Tryz.ntmps10, Tryz.results10]
       unfold spec_StateSame at h)
    | (with_reducible refine isf 134 ?_
       refine csw Tryz.func134 Tryz.call134 (by simp [Tryz.ntmps134]) (h := ?_)
       refine mkf 134 fun hF => ?_
       rw [Tryz.ntmps134, Tryz.results134]
       unfold spec_l01Src_l02Num at h)
    | (with_reducible refine isf 107 ?_
       refine csw Tryz.func107 Tryz.call107 (by simp [Tryz.ntmps107]) (h := ?_)
       refine mkf 107 fun hF => ?_
       rw [Tryz.ntmps107, Tryz.results107]
       unfold spec_l01Src_l06Fuel at h)
  all_goals (replace h := Yes.mk h; simp only [entryS, entryO, Nat.reduceAdd, List.length_nil, List.length_cons])
  repeat' (first
 | (with_reducible (first | refine sw_reg ?_ | refine sw_ret ?_ | refine sw_skip ?_ | refine sw_block ?_ | refine sw_exit ?_ | refine seqQ_normal ?_ | refine blockQ_normal ?_ | refine blockQ_ret ?_ | refine blockQ_this ?_ | refine blockQ_other (by decide) ?_ | refine regW_nil ?_ | refine sw_draw mixed ?_ | refine retQ_ret ?_ | refine retQ_normal ?_))
 | (with_reducible refine regD_nil ?_
    refine ⟨by kernel_rfl, ?_⟩)
 | (revert h; (first | ((with_reducible refine idx_elim ?_); intro m hm1 hm2 hm3 h; (try (simp only [Int.reduceToNat] at hm3)); (try (revert hm3; (with_reducible apply same_elim); (focus (with_reducible assumption)); rintro rfl)); (try (simp only [List.length_set, List.length_cons, List.length_nil, List.length_replicate, Nat.reduceAdd, Int.cast_ofNat_Int, Nat.zero_add, List.length_append] at hm2))) | (with_reducible refine sidx_elim ?_; intro m hm1 hm3 h) | (with_reducible refine gd_elim ?_; intro hg h; try (have hg2 := hg.2; have hg := hg.1; (try (simp only [Nat.reduceLeDiff] at hg2)); (try (revert hg2; (with_reducible refine toNat_elim hg ?_); intro hg2 hg4)); try (have hg3 := hg2.2; have hg2 := hg2.1; (try (simp only [Nat.reduceLeDiff] at hg3))))) | (with_reducible refine condt_elim ?_ ?_; (focus (with_reducible assumption)); intro h) | (with_reducible refine condf_elim ?_ ?_; (focus (with_reducible assumption)); intro h)))
 | ((with_reducible first | refine pnR ?_ | refine pnE ?_ | refine pmR ?_ | refine pmE ?_)
    obtain rfl := h.get
    have h := hK
    clear hK
    (try (simp only [Sum.elim_inl, Sum.elim_inr] at h)))
 | ((with_reducible refine fi 111 ?_ ?_); (focus (with_reducible assumption))
    first
    | (with_reducible refine here_join (a := (.seq (.region 9 _ _) _)) (b := (.cond (.tmp 32) _ _)) ?_
       revert h
       with_reducible refine bind_elimY ?_
       intro o3 h hK
       unfold impl_InsRight.a3 at h
       refine sw_join (ι := (List GFunc) × GI2 × Int × Int × Bool) 30000000 (fun x => [(.s 1, some (.v (V.int x.2.2.1))), (.s 3, some (.v (.mp 0 1 0 0))), (.s 5, some (.v (.mp 64 2 0 0))), (.s 12, some (.v (V.int x.2.2.2.1))), (.s 32, some (.v (V.bool x.2.2.2.2))), (.r 0, some (.o 1 [[.d (.row .bor 3 (Rw (GFunc.cells .bor) x.1))]])), (.r 64, some (.o 2 [[V.int x.2.1.a, V.int x.2.1.b]]))]) (fun x => Yes (some (x)) o3) ?_ ?_
       rotate_left
       rintro ⟨b1, b2, b3, b4, b5⟩ h
       obtain rfl := h.get
       have h := hK
       clear hK
       (try (simp only [Sum.elim_inl, Sum.elim_inr] at h))
       refine sw_gh ?_
       refine gh_sw ?_)
    | (with_reducible refine here_join (a := (.seq (.region 6 _ _) _)) (b := (.cond (.tmp 15) _ _)) ?_
       revert h
       with_reducible refine bind_elimY ?_
       intro o2 h hK
       unfold impl_InsRight.a2 at h
       refine sw_join (ι := (List GFunc) × GI2 × Int × Int × Bool) 20000000 (fun x => [(.s 1, some (.v (V.int x.2.2.1))), (.s 3, some (.v (.mp 0 1 0 0))), (.s 5, some (.v (.mp 64 2 0 0))), (.s 12, some (.v (V.int x.2.2.2.1))), (.s 15, some (.v (V.bool x.2.2.2.2))), (.r 0, some (.o 1 [[.d (.row .bor 3 (Rw (GFunc.cells .bor) x.1))]])), (.r 64, some (.o 2 [[V.int x.2.1.a, V.int x.2.1.b]]))]) (fun x => Yes (some (x)) o2) ?_ ?_
       rotate_left
       rintro ⟨b1, b2, b3, b4, b5⟩ h
       obtain rfl := h.get
       have h := hK
       clear hK
       (try (simp only [Sum.elim_inl, Sum.elim_inr] at h))
       refine sw_gh ?_
       refine gh_sw ?_)
    | (with_reducible refine here_join (a := (.seq (.region 3 _ _) _)) (b := (.seq (.region 14 _ _) _)) ?_
       revert h
       with_reducible refine bind_elimY ?_
       intro o1 h hK
       unfold impl_InsRight.a1 at h
       refine sw_join (ι := GI2) 10000000 (fun x => [(.s 5, some (.v (.mp 64 2 0 0))), (.r 64, some (.o 2 [[V.int x.a, V.int x.b]]))]) (fun x => Yes (some (.inr x)) o1) ?_ ?_
       rotate_left
       rintro b1 h
       obtain rfl := h.get
       have h := hK
       clear hK
       (try (simp only [Sum.elim_inl, Sum.elim_inr] at h))
       refine sw_gh ?_
       refine gh_sw ?_))
 | ((with_reducible refine fi 78 ?_ ?_); (focus (with_reducible assumption))
    first
    | (with_reducible refine here_join (a := (.seq (.region 1 _ _) _)) (b := (.cond (.tmp 5) _ _)) ?_
       revert h
       with_reducible refine bind_elimY ?_
       intro o2 h hK
       unfold impl_Takes.a2 at h
       refine sw_join (ι := (List GFunc) × GI2 × Bool) 20000000 (fun x => [(.s 2, some (.v (.mp 0 1 0 0))), (.s 3, some (.v (.mp 64 2 0 0))), (.s 5, some (.v (V.bool x.2.2))), (.r 0, some (.o 1 [[.d (.row .bor 3 (Rw (GFunc.cells .bor) x.1))]])), (.r 64, some (.o 2 [[V.int x.2.1.a, V.int x.2.1.b]]))]) (fun x => Yes (some (x)) o2) ?_ ?_
       rotate_left
       rintro ⟨b1, b2, b3⟩ h
       obtain rfl := h.get
       have h := hK
       clear hK
       (try (simp only [Sum.elim_inl, Sum.elim_inr] at h))
       refine sw_gh ?_
       refine gh_sw ?_)
    | (with_reducible refine here_join (a := (.block 0 _)) (b := (.seq (.seq (.region 12 _ _) _) _)) ?_
       revert h
       with_reducible refine bind_elimY ?_
       intro o1 h hK
       unfold impl_Takes.a1 at h
       refine sw_join (ι := GI2) 10000000 (fun x => [(.s 3, some (.v (.mp 64 2 0 0))), (.r 64, some (.o 2 [[V.int x.a, V.int x.b]]))]) (fun x => Yes (some (.inr x)) o1) ?_ ?_
       rotate_left
       rintro b1 h
       obtain rfl := h.get
       have h := hK
       clear hK
       (try (simp only [Sum.elim_inl, Sum.elim_inr] at h))
       refine sw_gh ?_
       refine gh_sw ?_))
 | ((with_reducible refine fi 100101 ?_ ?_); (focus (with_reducible assumption))
    first
    | (with_reducible refine here_loop (c := (.seq (.region 4 _ _) _)) ?_
       revert h
       with_reducible refine bind_elimY ?_
       intro o1 h hK
       refine lpA (β := (List GFrame) × (List GFrame) × Int × Int) 10000000 (fun x => [(.s 1, some (.v (.d (.row .bor 4 (Rw (GFrame.cells .bor) x.2.1))))), (.s 2, some (.v (.clo 43 []))), (.s 15, some (.v (.d (.row .bor 4 (Rw (GFrame.cells .bor) x.2.2.1))))), (.s 16, some (.v (V.int x.2.2.2.1))), (.s 17, some (.v (V.int x.2.2.2.2)))]) (fun x => Yes (slices_EqualFunc_impl_Frame_impl_Frame_impl_Frame_impl_Frame_vG2sameFrame.l1 x.1 x.2.1 x.2.2.1 x.2.2.2.1 x.2.2.2.2) o1) (_, _, _, _, _) h ?_
       rintro ⟨_ | k, a1, a2, a3, a4⟩ h
       · simp only [slices_EqualFunc_impl_Frame_impl_Frame_impl_Frame_impl_Frame_vG2sameFrame.l1] at h; exact h.none
       simp only [slices_EqualFunc_impl_Frame_impl_Frame_impl_Frame_impl_Frame_vG2sameFrame.l1] at h
   ))
 | ((with_reducible refine fi 10 ?_ ?_); (focus (with_reducible assumption))
    first
    | (with_reducible refine here_loop (c := (.seq (.seq (.region 4 _ _) _) _)) ?_
       revert h
       with_reducible refine bind_elimY ?_
       intro o2 h hK
       refine lpA (β := (List GFrame) × (List (List Int)) × (List Int) × Int × Bool × Int × Int × (List GFrame) × (List (List Int)) × (List Int) × Int × Bool × Int × Int × Int) 20000000 (fun x => [(.s 2, some (.v (.mp 0 7 0 0))), (.s 3, some (.v (.mp 64 7 0 0))), (.s 5, some (.v (V.int x.2.2.2.2.2.2.2.2.2.2.2.2.2.2.2))), (.r 0, some (.o 7 [[.d (.row .bor 4 (Rw (GFrame.cells .bor) x.2.1)), .d (.row .bor 1 (Rw (cL .bor 1 (cI .i64)) x.2.2.1)), .d (.row .bor 1 (Rw (cI .i64) x.2.2.2.1)), V.int x.2.2.2.2.1, V.bool x.2.2.2.2.2.1, V.int x.2.2.2.2.2.2.1, V.int x.2.2.2.2.2.2.2.1]])), (.r 64, some (.o 7 [[.d (.row .bor 4 (Rw (GFrame.cells .bor) x.2.2.2.2.2.2.2.2.1)), .d (.row .bor 1 (Rw (cL .bor 1 (cI .i64)) x.2.2.2.2.2.2.2.2.2.1)), .d (.row .bor 1 (Rw (cI .i64) x.2.2.2.2.2.2.2.2.2.2.1)), V.int x.2.2.2.2.2.2.2.2.2.2.2.1, V.bool x.2.2.2.2.2.2.2.2.2.2.2.2.1, V.int x.2.2.2.2.2.2.2.2.2.2.2.2.2.1, V.int x.2.2.2.2.2.2.2.2.2.2.2.2.2.2.1]]))]) (fun x => Yes (spec_StateSame.l2 x.1 x.2.1 x.2.2.1 x.2.2.2.1 x.2.2.2.2.1 x.2.2.2.2.2.1 x.2.2.2.2.2.2.1 x.2.2.2.2.2.2.2.1 x.2.2.2.2.2.2.2.2.1 x.2.2.2.2.2.2.2.2.2.1 x.2.2.2.2.2.2.2.2.2.2.1 x.2.2.2.2.2.2.2.2.2.2.2.1 x.2.2.2.2.2.2.2.2.2.2.2.2.1 x.2.2.2.2.2.2.2.2.2.2.2.2.2.1 x.2.2.2.2.2.2.2.2.2.2.2.2.2.2.1 x.2.2.2.2.2.2.2.2.2.2.2.2.2.2.2) o2) (_, _, _, _, _, _, _, _, _, _, _, _, _, _, _, _) h ?_
       rintro ⟨_ | k, a1, a2, a3, a4, a5, a6, a7, a8, a9, a10, a11, a12, a13, a14, a15⟩ h
       · simp only [spec_StateSame.l2] at h; exact h.none
       simp only [spec_StateSame.l2] at h
   )
    | (with_reducible refine here_join (a := (.seq (.region 1 _ _) _)) (b := (.seq (.seq (.region 3 _ _) _) _)) ?_
       revert h
       with_reducible refine bind_elimY ?_
       intro o1 h hK
       unfold spec_StateSame.a1 at h
       refine sw_join (ι := (List GFrame) × (List (List Int)) × (List Int) × Int × Bool × Int × Int × (List GFrame) × (List (List Int)) × (List Int) × Int × Bool × Int × Int) 10000000 (fun x => [(.s 2, some (.v (.mp 0 7 0 0))), (.s 3, some (.v (.mp 64 7 0 0))), (.r 0, some (.o 7 [[.d (.row .bor 4 (Rw (GFrame.cells .bor) x.1)), .d (.row .bor 1 (Rw (cL .bor 1 (cI .i64)) x.2.1)), .d (.row .bor 1 (Rw (cI .i64) x.2.2.1)), V.int x.2.2.2.1, V.bool x.2.2.2.2.1, V.int x.2.2.2.2.2.1, V.int x.2.2.2.2.2.2.1]])), (.r 64, some (.o 7 [[.d (.row .bor 4 (Rw (GFrame.cells .bor) x.2.2.2.2.2.2.2.1)), .d (.row .bor 1 (Rw (cL .bor 1 (cI .i64)) x.2.2.2.2.2.2.2.2.1)), .d (.row .bor 1 (Rw (cI .i64) x.2.2.2.2.2.2.2.2.2.1)), V.int x.2.2.2.2.2.2.2.2.2.2.1, V.bool x.2.2.2.2.2.2.2.2.2.2.2.1, V.int x.2.2.2.2.2.2.2.2.2.2.2.2.1, V.int x.2.2.2.2.2.2.2.2.2.2.2.2.2]]))]) (fun x => Yes (some (.inr x)) o1) ?_ ?_
       rotate_left
       rintro ⟨b1, b2, b3, b4, b5, b6, b7, b8, b9, b10, b11, b12, b13, b14⟩ h
       obtain rfl := h.get
       have h := hK
       clear hK
       (try (simp only [Sum.elim_inl, Sum.elim_inr] at h))
       refine sw_gh ?_
       refine gh_sw ?_))
 | (with_reducible refine here_next ?_
    first | refine nxA (_, _, _, _, _) h | refine nxA (_, _, _, _, _, _, _, _, _, _, _, _, _, _, _, _) h)
 | (with_reducible refine here_meet ?_
    first | refine mtA _ h | refine mtA (_, _, _) h | refine mtA (_, _, _, _, _) h | refine mtA (_, _, _, _, _, _, _, _, _, _, _, _, _, _) h)
 | with_reducible refine sw_seq ?_
 | with_reducible refine seqQ_ret ?_
 | with_reducible refine seqQ_exit ?_
 | ((with_reducible refine wp_ite ?_ ?_)
    all_goals (intro hc; (try (simp only [Bool.not_eq_true, Bool.not_eq_false] at hc)); simp only [hc]))
 | (with_reducible refine rskip (hs := ?_) (h2 := ?_)
    · simp only [lkd, lkb, reduceCtorEq, Nat.reduceEqDiff]; done)
 | (with_reducible refine ryes (hs := ?_) (h := ?_)
    · simp only [lkd, lkb, reduceCtorEq, Nat.reduceEqDiff]; done)
 | (with_reducible refine rno (hs := ?_) (h := ?_)
    · simp only [lkd, lkb, reduceCtorEq, Nat.reduceEqDiff, Bool.not_true, Bool.not_false]; done)
 | (with_reducible apply regW_guardN
    · simp only [dstOk, Nat.reduceLT]
    · rfl
    · simp only [lkd, lkb, reduceCtorEq, Nat.reduceEqDiff]; rfl
    all_goals (intro hc; (try (simp only [Bool.not_true, Bool.not_false] at hc))))
 | (with_reducible apply sw_cond
    · simp only [lkd, lkb, reduceCtorEq, Nat.reduceEqDiff]; rfl
    all_goals (intro hc; try (cases hc; done)))
 | ((first
     | ((with_reducible refine gh_ret ?_)
        revert h
        with_reducible refine some_elim ?_
        rintro rfl)
     | (with_reducible refine here_call ?_
        revert h
        with_reducible refine bind_elim ?_
        intro t ht h
        (first
          | ((first
              | ((with_reducible refine here_call (f := 119) ?_); refine call_dataE (c_impl_hasFunc ht) ?_ rfl ?_)
              | ((with_reducible refine here_call (f := 137) ?_); refine call_dataE (c_impl_OpName ht) ?_ rfl ?_)
              | ((with_reducible refine here_call (f := 122) ?_); refine call_dataE (c_impl_isArith ht) ?_ rfl ?_)
              | ((with_reducible refine here_call (f := 115) ?_); refine call_dataE (c_impl_copies ht) ?_ rfl ?_)
              | ((with_reducible refine here_call (f := 116) ?_); refine call_dataE (c_slices_Clone_int64_int64 ht) ?_ rfl ?_)
              | ((with_reducible refine here_call (f := 118) ?_); refine call_dataE (c_impl_isBinary ht) ?_ rfl ?_)
              | ((with_reducible refine here_call (f := 120) ?_); refine call_dataE (c_impl_isUnary ht) ?_ rfl ?_)
              | ((with_reducible refine here_call (f := 140) ?_); refine call_dataE (c_impl_Binary ht) ?_ rfl ?_)
              | ((with_reducible refine here_call (f := 141) ?_); refine call_dataE (c_impl_Unary ht) ?_ rfl ?_)
              | ((with_reducible refine here_call (f := 117) ?_); refine call_dataE (c_impl_prog_at ht) ?_ rfl ?_)
              | ((with_reducible refine here_call (f := 139) ?_); refine call_dataE (c_impl_prog_reached ht) ?_ rfl ?_)
              | ((with_reducible refine here_call (f := 43) ?_); refine call_dataE (c_impl_sameFrame ht) ?_ rfl ?_)
              | ((with_reducible refine here_call (f := 37) ?_); refine call_dataE (c_spec_l06SameHeap ht) ?_ rfl ?_)
              | ((with_reducible refine here_call (f := 38) ?_); refine call_dataE (c_spec_l06SameNums ht) ?_ rfl ?_))
             · first | rfl | (simp; done))
          | ((first
              | ((with_reducible refine here_call (f := 90) ?_); refine call_obj [] (c_slices_EqualFunc_int64_int64_int64_int64_vG2Equal ht) (by decide) ?_ ?_)
              | ((with_reducible refine here_call (f := 98) ?_); refine call_obj [0] (c_spec_l01Src_n ht) (by decide) ?_ ?_)
              | ((with_reducible refine here_call (f := 146) ?_); refine call_obj [0] (c_spec_l01Src_edge ht) (by decide) ?_ ?_)
              | ((with_reducible refine here_call (f := 103) ?_); refine call_obj [0] (c_spec_l01Src_one ht) (by decide) ?_ ?_))
             · first | exact .inl rfl | (refine .inr ⟨?_, ?_⟩; (focus (first | rfl | (simp only [nbd, nbb, Gl01Src_nb, GI2_nb, GFunc_nb, GProgram_nb, GFrame_nb, GState_nb, Gprog_nb, Gworld_nb, LcIi64_nb]; done))); (focus (simp [C.nb, V.nbLL, V.nbL, V.nb, D.nb]; done)))
             simp only [obd, hyb, hyd, Gl01Src_lend, GI2_lend, GFunc_lend, GProgram_lend, GFrame_lend, GState_lend, Gprog_lend, Gworld_lend, LcIi64_lend, lkd, lkb, reduceCtorEq, Nat.reduceEqDiff, Prog.wp, Prog.wp_bind, Prog.bind, Prog.ofO, List.take_of_length_le, *])))
     | (with_reducible (first | refine ropD (h := ?_) | refine ropW (h := ?_))
        intro k hk)
     | skip)
    simp only [bn, lkb, evb, evd, Value.oneCell', setSeg, reduceCtorEq, Nat.reduceAdd, Nat.reduceMul, Nat.reduceSub, Nat.reduceLT, Nat.reduceLeDiff, Nat.reduceEqDiff, Int.reduceNeg, Int.reduceToNat, ty2, ty3, ty4, ty5, ty6, ty9, ty10, ty22, ty23, ty25, ty26, ty27, ty28, ty30, ty56, ty58, ty85, ty92, ty94, ty98, ty102, ty104, ty120, ty138, ty140, GFrame.cells, GFunc.cells, GI2.cells, GProgram.cells, GState.cells, Gl01Src.cells, Gprog.cells, Gworld.cells, cI, cB, cS, cL, Gl01Src_e, GI2_e, GFunc_e, GProgram_e, GFrame_e, GState_e, Gprog_e, Gworld_e, LcIi64_e, buildP, buildSliceP, putParts, structPlaces, chunks, List.replicate, List.flatten_nil, List.flatten_cons, Option.bind_some, bb, cellsEq, cellEq, Bool.and_true, fl98_impl_prog_stands, *]
    try (refine hk.use _ _ _ _ ?_; clear hk k))
 | fail)
  all_goals (try rfl)
  all_goals (try (simp; done))
  all_goals (try (simp_all; done))
def c_impl_InsRight := @And.left _ _ gr14
def c_impl_Puts := @And.left _ _ (@And.right _ _ gr14)
def c_impl_State_world := @And.left _ _ (@And.right _ _ (@And.right _ _ gr14))
def c_impl_Takes := @And.left _ _ (@And.right _ _ (@And.right _ _ (@And.right _ _ gr14)))
def c_impl_arith := @And.left _ _ (@And.right _ _ (@And.right _ _ (@And.right _ _ (@And.right _ _ gr14))))
def c_impl_prog_stands := @And.left _ _ (@And.right _ _ (@And.right _ _ (@And.right _ _ (@And.right _ _ (@And.right _ _ gr14)))))
def c_impl_sameLists := @And.left _ _ (@And.right _ _ (@And.right _ _ (@And.right _ _ (@And.right _ _ (@And.right _ _ (@And.right _ _ gr14))))))
def c_slices_EqualFunc_impl_Frame_impl_Frame_impl_Frame_impl_Frame_vG2sameFrame := @And.left _ _ (@And.right _ _ (@And.right _ _ (@And.right _ _ (@And.right _ _ (@And.right _ _ (@And.right _ _ (@And.right _ _ gr14)))))))
def c_spec_StateSame := @And.left _ _ (@And.right _ _ (@And.right _ _ (@And.right _ _ (@And.right _ _ (@And.right _ _ (@And.right _ _ (@And.right _ _ (@And.right _ _ gr14))))))))
def c_spec_l01Src_l02Num := @And.left _ _ (@And.right _ _ (@And.right _ _ (@And.right _ _ (@And.right _ _ (@And.right _ _ (@And.right _ _ (@And.right _ _ (@And.right _ _ (@And.right _ _ gr14)))))))))
def c_spec_l01Src_l06Fuel := (@And.right _ _ (@And.right _ _ (@And.right _ _ (@And.right _ _ (@And.right _ _ (@And.right _ _ (@And.right _ _ (@And.right _ _ (@And.right _ _ (@And.right _ _ gr14))))))))))
end Go.Proofs.YtdlaplgofgklnaaGreat