/- WHAT IS PROVED: an abstract walker over the model, what some functions of the program answer, and laws of these answers, one behind the other. Conditions: none. -/
import Derived.Test.YtdlaplgofgklnaaKl4
namespace Go.Proofs.Ytdlaplgofgklnaa
open Go.Proofs Go.Proofs.Ytdlaplgofgklnaa.L
set_option maxHeartbeats 1000000
set_option linter.unusedSimpArgs false
set_option linter.unusedVariables false
set_option maxRecDepth 100000

def impl_InsRight.a2 (k : Nat) (a1 : (List GFunc)) (a2 : GI2) (a3 : Int) (a4 : Int) : Option ((List GFunc) × GI2 × Int × Int × Bool) :=
  cond ((a4 == 2)) (some (a1, a2, a3, a4, true)) (some (a1, a2, a3, a4, (a4 == 3)))

def impl_InsRight.a3 (k : Nat) (a1 : (List GFunc)) (a2 : GI2) (a3 : Int) (a4 : Int) : Option ((List GFunc) × GI2 × Int × Int × Bool) :=
  cond ((a4 == 30)) (some (a1, a2, a3, a4, true)) (some (a1, a2, a3, a4, (a4 == 31)))

def impl_InsRight.a1 (k : Nat) (a1 : (List GFunc)) (a2 : GI2) (a3 : Int) : Option ((Bool) ⊕ (GI2)) :=
  cond ((a2.a == 1)) (some (.inl (true))) ((impl_InsRight.a2 k a1 a2 a3 a2.a).bind fun o2 => cond o2.2.2.2.2 (cond ((decide (o2.2.1.b ≥ 0))) ((idx o2.1 o2.2.2.1).bind fun m2 => some (.inl ((decide (o2.2.1.b < m2.locals))))) (some (.inl (false)))) ((impl_InsRight.a3 k o2.1 o2.2.1 o2.2.2.1 o2.2.2.2.1).bind fun o3 => cond o3.2.2.2.2 (cond ((decide (o3.2.1.b ≥ 0))) ((idx o3.1 o3.2.2.1).bind fun m3 => some (.inl ((decide (o3.2.1.b < ((m3.code.length : Int))))))) (some (.inl (false)))) (cond ((o3.2.2.2.1 == 32)) ((impl_hasFunc ((⟨o3.1⟩ : GProgram)) o3.2.1.b).bind fun t4 => some (.inl (t4))) (some (.inr (o3.2.1))))))

def impl_InsRight (k : Nat) (p0 : GProgram) (p1 : Int) (p2 : GI2) : Option (Bool) :=
  (impl_hasFunc p0 p1).bind fun t1 => cond ((!t1)) (some false) ((impl_InsRight.a1 k p0.funcs p2 p1).bind fun o1 => Sum.elim (fun o1l => some o1l) (fun o1r => (impl_OpName o1r.a).bind fun t5 => cond ((!(t5.toList == ((⟨#[]⟩ : ByteArray)).toList))) (some ((o1r.b == 0))) (some false)) o1)

theorem c_impl_InsRight {k : Nat} {p0 : GProgram} {p1 : Int} {p2 : GI2} {r : Bool} (h : impl_InsRight k p0 p1 p2 = some r) : Con Try.prog 110 [.agg [.d (.row .bor 3 (Rw (GFunc.cells .bor) p0.funcs))], V.int p1, .agg [V.int p2.a, V.int p2.b]] [] (V.bool r) [] := by
  refine con_of_sw Try.func110 rfl Try.call110 (by simp [Try.ntmps110]) (by simp [V.inNs, V.inN]) (by simp [C.inN, V.inNss, V.inNs, V.inN, inNss_dd]) (by simp [V.inNs, V.inN]) (by simp [C.inN, V.inNss, V.inNs, V.inN, inNss_dd]) rfl ?_
  rw [Try.ntmps110, Try.results110]
  unfold impl_InsRight at h
  replace h := Yes.mk h
  simp only [entryS, entryO, Nat.reduceAdd, List.length_nil, List.length_cons]
  repeat' (first
    | with_reducible refine sw_reg ?_
    | with_reducible refine sw_ret ?_
    | with_reducible refine sw_skip ?_
    | with_reducible refine sw_block ?_
    | with_reducible refine sw_exit ?_
    | with_reducible refine seqQ_normal ?_
    | with_reducible refine blockQ_normal ?_
    | with_reducible refine blockQ_ret ?_
    | with_reducible refine blockQ_this ?_
    | with_reducible refine blockQ_other (by decide) ?_
    | with_reducible refine regW_nil ?_
    | with_reducible refine sw_draw mixed ?_
    | (with_reducible refine regD_nil ?_
       refine ⟨by kernel_rfl, ?_⟩)
    | with_reducible refine retQ_ret ?_
    | with_reducible refine retQ_normal ?_
    | (revert h; (first | ((with_reducible refine idx_elim ?_); intro m hm1 hm2 hm3 h; (try (simp only [Int.reduceToNat] at hm3)); (try (revert hm3; (with_reducible apply same_elim); (focus (with_reducible assumption)); rintro rfl)); (try (simp only [List.length_set, List.length_cons, List.length_nil, List.length_replicate, Nat.reduceAdd, Int.cast_ofNat_Int, Nat.zero_add, List.length_append] at hm2))) | (with_reducible refine sidx_elim ?_; intro m hm1 hm3 h) | (with_reducible refine gd_elim ?_; intro hg h; try (have hg2 := hg.2; have hg := hg.1; (try (simp only [Nat.reduceLeDiff] at hg2)); (try (revert hg2; (with_reducible refine toNat_elim hg ?_); intro hg2 hg4)); try (have hg3 := hg2.2; have hg2 := hg2.1; (try (simp only [Nat.reduceLeDiff] at hg3))))) | fail))
    | ((first | with_reducible refine seqQ_ret (K := (fun st1 n1 => Gh st1 n1 (MeetA _ 30000000 _ _))) ?_ | with_reducible refine seqQ_exit (K := (fun st1 n1 => Gh st1 n1 (MeetA _ 30000000 _ _))) ?_)
       obtain rfl := h.get
       have h := hK3
       (try (simp only [Sum.elim_inl, Sum.elim_inr] at h)))
    | ((first | with_reducible refine seqQ_ret (K := (fun st1 n1 => Gh st1 n1 (MeetA _ 20000000 _ _))) ?_ | with_reducible refine seqQ_exit (K := (fun st1 n1 => Gh st1 n1 (MeetA _ 20000000 _ _))) ?_)
       obtain rfl := h.get
       have h := hK2
       (try (simp only [Sum.elim_inl, Sum.elim_inr] at h)))
    | ((first | with_reducible refine seqQ_ret (K := (fun st1 n1 => Gh st1 n1 (MeetA _ 10000000 _ _))) ?_ | with_reducible refine seqQ_exit (K := (fun st1 n1 => Gh st1 n1 (MeetA _ 10000000 _ _))) ?_)
       obtain rfl := h.get
       have h := hK1
       (try (simp only [Sum.elim_inl, Sum.elim_inr] at h)))
    | (with_reducible refine here_join (a := (.seq (.region 9 _ _) _)) (b := (.cond (.tmp 32) _ _)) ?_
       skip
       revert h
       with_reducible refine bind_elimY ?_
       intro o3 h hK3
       unfold impl_InsRight.a3 at h
       refine sw_join (ι := (List GFunc) × GI2 × Int × Int × Bool) 30000000 (fun x : (List GFunc) × GI2 × Int × Int × Bool => [(.s 1, some (.v (V.int x.2.2.1))), (.s 3, some (.v (.mp 0 1 0 0))), (.s 5, some (.v (.mp 64 2 0 0))), (.s 12, some (.v (V.int x.2.2.2.1))), (.s 32, some (.v (V.bool x.2.2.2.2))), (.r 0, some (.o 1 [[.d (.row .bor 3 (Rw (GFunc.cells .bor) x.1))]])), (.r 64, some (.o 2 [[V.int x.2.1.a, V.int x.2.1.b]]))]) (fun x => Yes (some (x)) o3) ?_ ?_
       rotate_left
       rintro ⟨b1, b2, b3, b4, b5⟩ h
       obtain rfl := h.get
       have h := hK3
       (try (simp only [Sum.elim_inl, Sum.elim_inr] at h))
       refine sw_gh ?_
       refine gh_sw ?_
       skip)
    | (with_reducible refine here_meet (N0 := 30000000) ?_
       skip
       refine meet_to (_, _, _, _, _) (by decide) ?_ h ?_
       · exact (by simp [slNL, C.inN, V.inN, V.inNs, V.inNss, inNss_dd, inNs_map_d])
       · simp only [SubL, putSt, lk, Res.s.injEq, Res.r.injEq, reduceCtorEq, Nat.reduceEqDiff, if_true, if_false, List.length_set, List.length_replicate]; repeat' (first | apply And.intro | rfl | trivial | (simp only [*]; done)))
    | (with_reducible refine here_join (a := (.seq (.region 6 _ _) _)) (b := (.cond (.tmp 15) _ _)) ?_
       skip
       revert h
       with_reducible refine bind_elimY ?_
       intro o2 h hK2
       unfold impl_InsRight.a2 at h
       refine sw_join (ι := (List GFunc) × GI2 × Int × Int × Bool) 20000000 (fun x : (List GFunc) × GI2 × Int × Int × Bool => [(.s 1, some (.v (V.int x.2.2.1))), (.s 3, some (.v (.mp 0 1 0 0))), (.s 5, some (.v (.mp 64 2 0 0))), (.s 12, some (.v (V.int x.2.2.2.1))), (.s 15, some (.v (V.bool x.2.2.2.2))), (.r 0, some (.o 1 [[.d (.row .bor 3 (Rw (GFunc.cells .bor) x.1))]])), (.r 64, some (.o 2 [[V.int x.2.1.a, V.int x.2.1.b]]))]) (fun x => Yes (some (x)) o2) ?_ ?_
       rotate_left
       rintro ⟨b1, b2, b3, b4, b5⟩ h
       obtain rfl := h.get
       have h := hK2
       (try (simp only [Sum.elim_inl, Sum.elim_inr] at h))
       refine sw_gh ?_
       refine gh_sw ?_
       skip)
    | (with_reducible refine here_meet (N0 := 20000000) ?_
       skip
       refine meet_to (_, _, _, _, _) (by decide) ?_ h ?_
       · exact (by simp [slNL, C.inN, V.inN, V.inNs, V.inNss, inNss_dd, inNs_map_d])
       · simp only [SubL, putSt, lk, Res.s.injEq, Res.r.injEq, reduceCtorEq, Nat.reduceEqDiff, if_true, if_false, List.length_set, List.length_replicate]; repeat' (first | apply And.intro | rfl | trivial | (simp only [*]; done)))
    | (with_reducible refine here_join (a := (.seq (.region 3 _ _) _)) (b := (.seq (.region 14 _ _) _)) ?_
       skip
       revert h
       with_reducible refine bind_elimY ?_
       intro o1 h hK1
       unfold impl_InsRight.a1 at h
       refine sw_join (ι := GI2) 10000000 (fun x : GI2 => [(.s 5, some (.v (.mp 64 2 0 0))), (.r 64, some (.o 2 [[V.int x.a, V.int x.b]]))]) (fun x => Yes (some (.inr x)) o1) ?_ ?_
       rotate_left
       rintro b1 h
       obtain rfl := h.get
       have h := hK1
       (try (simp only [Sum.elim_inl, Sum.elim_inr] at h))
       refine sw_gh ?_
       refine gh_sw ?_
       skip)
    | (with_reducible refine here_meet (N0 := 10000000) ?_
       skip
       refine meet_to (_) (by decide) ?_ h ?_
       · exact (by simp [slNL, C.inN, V.inN, V.inNs, V.inNss, inNss_dd, inNs_map_d])
       · simp only [SubL, putSt, lk, Res.s.injEq, Res.r.injEq, reduceCtorEq, Nat.reduceEqDiff, if_true, if_false, List.length_set, List.length_replicate]; repeat' (first | apply And.intro | rfl | trivial | (simp only [*]; done)))
    | with_reducible refine sw_seq ?_
    | with_reducible refine seqQ_ret ?_
    | with_reducible refine seqQ_exit ?_
    | ((with_reducible refine wp_ite ?_ ?_)
       all_goals (intro hc; (try (simp only [Bool.not_eq_true, Bool.not_eq_false] at hc)); (try (revert h; first | (with_reducible refine condt_elim hc ?_; intro h) | (with_reducible refine condf_elim hc ?_; intro h) | fail)); simp only [hc]))
    | (with_reducible apply regW_skip
       · simp only [dstOk, Nat.reduceLT]
       · rfl
       · simp only [putSt, lk, Res.s.injEq, Res.r.injEq, reduceCtorEq, Nat.reduceEqDiff, if_true, if_false]; done)
    | (with_reducible apply regW_yesN
       · simp only [dstOk, Nat.reduceLT]
       · rfl
       · simp only [putSt, lk, Res.s.injEq, Res.r.injEq, reduceCtorEq, Nat.reduceEqDiff, if_true, if_false]; done)
    | (with_reducible apply regW_no
       · simp only [dstOk, Nat.reduceLT]
       · rfl
       · simp only [putSt, lk, Res.s.injEq, Res.r.injEq, reduceCtorEq, Nat.reduceEqDiff, if_true, if_false, Bool.not_true, Bool.not_false]; done)
    | (with_reducible apply regW_guardN
       · simp only [dstOk, Nat.reduceLT]
       · rfl
       · simp only [putSt, lk, Res.s.injEq, Res.r.injEq, reduceCtorEq, Nat.reduceEqDiff, if_true, if_false]; rfl
       all_goals (intro hc; (try (simp only [Bool.not_true, Bool.not_false] at hc)); (try (revert h; first | (with_reducible refine condt_elim hc ?_; intro h) | (with_reducible refine condf_elim hc ?_; intro h) | fail))))
    | ((with_reducible apply sw_cond
        · simp only [putSt, lk, Res.s.injEq, Res.r.injEq, reduceCtorEq, Nat.reduceEqDiff, if_true, if_false]; rfl
        all_goals (intro hc; try (cases hc; done)))
       all_goals (try (revert h; first | (with_reducible refine condt_elim hc ?_; intro h) | (with_reducible refine condf_elim hc ?_; intro h) | fail)))
    | ((first
        | ((with_reducible refine gh_ret ?_)
           revert h
           with_reducible refine some_elim ?_
           rintro rfl)
        | (with_reducible refine here_call ?_
           revert h
           with_reducible refine bind_elim ?_
           intro t ht h
           (first
             | (refine call_dataE (c_impl_hasFunc ht) ?_ rfl ?_
                · first | rfl | (simp; done))
             | (refine call_dataE (c_impl_OpName ht) ?_ rfl ?_
                · first | rfl | (simp; done))))
        | (with_reducible apply regD_opK
           · simp only [dstOk, Nat.reduceLT]
           · simp only [Nat.reduceAdd]; rfl
           intro k hk)
        | (with_reducible apply regW_opK
           · simp only [dstOk, Nat.reduceLT]
           · simp only [Nat.reduceAdd]; rfl
           intro k hk)
        | skip)
       simp only [RetW, bn, opC, opP, fetchN, fetchP, fetchAll, fetchO, Prog.bind, Prog.wp, Prog.wp_bind, lk, nameP, nameAll, Value.oneCell', putSt, stepP, putP, Res.s.injEq, Res.r.injEq, reduceCtorEq, V.lin, V.linL, D.lin, isNil, binP, unP, BinOp.isShift, Prog.ofO, true_and, and_true, Nat.reduceAdd, Nat.reduceMul, Nat.reduceSub, Nat.reduceLT, Nat.reduceLeDiff, Nat.reduceEqDiff, if_true, if_false, ite_true, ite_false, Bool.false_eq_true, Bool.not_true, Bool.not_false, Bool.or_false, Bool.or_true, fieldAddrP, fieldP, indexAddrP, loadP, storeP, boxP, allocP, cellsP, asVal, setSeg, outP, outT, cntT, TyK.field, TyK.agg, zeroRow, V.ren, V.renL, forall_eq_or_imp, implies_true, false_implies, forall_const, and_self, true_or, minmaxP, lenP, lenOf, lenStr, V.asInt, decide_true, decide_false, sliceP, boundP, makeSliceP, convertP, appendP, rowsOfP, ontoP, sizeFits, V.rowSize, TyK.src, resV, resV.go, resV.gol, retP, retOne, retAll, resTo, objsAre, Option.map_eq_map, Function.const_apply, Int.reduceNeg, Int.reduceToNat, ty2, ty4, ty9, ty28, ty30, ty63, ty65, ty107, GFunc.cells, GI2.cells, GProgram.cells, cI, cB, cS, cL, GI2_e, GFunc_e, GProgram_e, LGI2_e, *]
       try (refine hk.use _ _ _ _ ?_; clear hk k))
    | fail)
  all_goals (try rfl)
  all_goals (try (simp; done))
  all_goals (try (simp_all; done))

end Go.Proofs.Ytdlaplgofgklnaa
namespace Go.Proofs.Ytdlaplgofgklnaa
open Go.Proofs Go.Proofs.Ytdlaplgofgklnaa.L
set_option maxHeartbeats 1000000
set_option linter.unusedSimpArgs false
set_option linter.unusedVariables false
set_option maxRecDepth 100000

def impl_isBinary (p0 : Int) : Option (Bool) :=
  (impl_in p0 10 23).bind fun t1 => some t1

theorem c_impl_isBinary {p0 : Int} {r : Bool} (h : impl_isBinary p0 = some r) : Con Try.prog 128 [V.int p0] [] (V.bool r) [] := by
  refine con_of_sw Try.func128 rfl Try.call128 (by simp [Try.ntmps128]) (by simp [V.inNs, V.inN]) (by simp [C.inN, V.inNss, V.inNs, V.inN, inNss_dd]) (by simp [V.inNs, V.inN]) (by simp [C.inN, V.inNss, V.inNs, V.inN, inNss_dd]) rfl ?_
  rw [Try.ntmps128, Try.results128]
  unfold impl_isBinary at h
  replace h := Yes.mk h
  simp only [entryS, entryO, Nat.reduceAdd, List.length_nil, List.length_cons]
  repeat' (first
    | with_reducible refine sw_reg ?_
    | with_reducible refine sw_ret ?_
    | with_reducible refine sw_skip ?_
    | with_reducible refine sw_block ?_
    | with_reducible refine sw_exit ?_
    | with_reducible refine seqQ_normal ?_
    | with_reducible refine blockQ_normal ?_
    | with_reducible refine blockQ_ret ?_
    | with_reducible refine blockQ_this ?_
    | with_reducible refine blockQ_other (by decide) ?_
    | with_reducible refine regW_nil ?_
    | with_reducible refine sw_draw mixed ?_
    | (with_reducible refine regD_nil ?_
       refine ⟨by kernel_rfl, ?_⟩)
    | with_reducible refine retQ_ret ?_
    | with_reducible refine retQ_normal ?_
    | (revert h; (first | ((with_reducible refine idx_elim ?_); intro m hm1 hm2 hm3 h; (try (simp only [Int.reduceToNat] at hm3)); (try (revert hm3; (with_reducible apply same_elim); (focus (with_reducible assumption)); rintro rfl)); (try (simp only [List.length_set, List.length_cons, List.length_nil, List.length_replicate, Nat.reduceAdd, Int.cast_ofNat_Int, Nat.zero_add, List.length_append] at hm2))) | (with_reducible refine sidx_elim ?_; intro m hm1 hm3 h) | (with_reducible refine gd_elim ?_; intro hg h; try (have hg2 := hg.2; have hg := hg.1; (try (simp only [Nat.reduceLeDiff] at hg2)); (try (revert hg2; (with_reducible refine toNat_elim hg ?_); intro hg2 hg4)); try (have hg3 := hg2.2; have hg2 := hg2.1; (try (simp only [Nat.reduceLeDiff] at hg3))))) | fail))
    | with_reducible refine sw_seq ?_
    | with_reducible refine seqQ_ret ?_
    | with_reducible refine seqQ_exit ?_
    | ((with_reducible refine wp_ite ?_ ?_)
       all_goals (intro hc; (try (simp only [Bool.not_eq_true, Bool.not_eq_false] at hc)); (try (revert h; first | (with_reducible refine condt_elim hc ?_; intro h) | (with_reducible refine condf_elim hc ?_; intro h) | fail)); simp only [hc]))
    | (with_reducible apply regW_skip
       · simp only [dstOk, Nat.reduceLT]
       · rfl
       · simp only [putSt, lk, Res.s.injEq, Res.r.injEq, reduceCtorEq, Nat.reduceEqDiff, if_true, if_false]; done)
    | (with_reducible apply regW_yesN
       · simp only [dstOk, Nat.reduceLT]
       · rfl
       · simp only [putSt, lk, Res.s.injEq, Res.r.injEq, reduceCtorEq, Nat.reduceEqDiff, if_true, if_false]; done)
    | (with_reducible apply regW_no
       · simp only [dstOk, Nat.reduceLT]
       · rfl
       · simp only [putSt, lk, Res.s.injEq, Res.r.injEq, reduceCtorEq, Nat.reduceEqDiff, if_true, if_false, Bool.not_true, Bool.not_false]; done)
    | (with_reducible apply regW_guardN
       · simp only [dstOk, Nat.reduceLT]
       · rfl
       · simp only [putSt, lk, Res.s.injEq, Res.r.injEq, reduceCtorEq, Nat.reduceEqDiff, if_true, if_false]; rfl
       all_goals (intro hc; (try (simp only [Bool.not_true, Bool.not_false] at hc)); (try (revert h; first | (with_reducible refine condt_elim hc ?_; intro h) | (with_reducible refine condf_elim hc ?_; intro h) | fail))))
    | ((with_reducible apply sw_cond
        · simp only [putSt, lk, Res.s.injEq, Res.r.injEq, reduceCtorEq, Nat.reduceEqDiff, if_true, if_false]; rfl
        all_goals (intro hc; try (cases hc; done)))
       all_goals (try (revert h; first | (with_reducible refine condt_elim hc ?_; intro h) | (with_reducible refine condf_elim hc ?_; intro h) | fail)))
    | ((first
        | ((with_reducible refine gh_ret ?_)
           revert h
           with_reducible refine some_elim ?_
           rintro rfl)
        | (with_reducible refine here_call ?_
           revert h
           with_reducible refine bind_elim ?_
           intro t ht h
           (first
             | (refine call_dataE (c_impl_in ht) ?_ rfl ?_
                · first | rfl | (simp; done))))
        | (with_reducible apply regD_opK
           · simp only [dstOk, Nat.reduceLT]
           · simp only [Nat.reduceAdd]; rfl
           intro k hk)
        | (with_reducible apply regW_opK
           · simp only [dstOk, Nat.reduceLT]
           · simp only [Nat.reduceAdd]; rfl
           intro k hk)
        | skip)
       simp only [RetW, bn, opC, opP, fetchN, fetchP, fetchAll, fetchO, Prog.bind, Prog.wp, Prog.wp_bind, lk, nameP, nameAll, Value.oneCell', putSt, stepP, putP, Res.s.injEq, Res.r.injEq, reduceCtorEq, V.lin, V.linL, D.lin, isNil, binP, unP, BinOp.isShift, Prog.ofO, true_and, and_true, Nat.reduceAdd, Nat.reduceMul, Nat.reduceSub, Nat.reduceLT, Nat.reduceLeDiff, Nat.reduceEqDiff, if_true, if_false, ite_true, ite_false, Bool.false_eq_true, Bool.not_true, Bool.not_false, Bool.or_false, Bool.or_true, fieldAddrP, fieldP, indexAddrP, loadP, storeP, boxP, allocP, cellsP, asVal, setSeg, outP, outT, cntT, TyK.field, TyK.agg, zeroRow, V.ren, V.renL, forall_eq_or_imp, implies_true, false_implies, forall_const, and_self, true_or, minmaxP, lenP, lenOf, lenStr, V.asInt, decide_true, decide_false, sliceP, boundP, makeSliceP, convertP, appendP, rowsOfP, ontoP, sizeFits, V.rowSize, TyK.src, resV, resV.go, resV.gol, retP, retOne, retAll, resTo, objsAre, Option.map_eq_map, Function.const_apply, Int.reduceNeg, Int.reduceToNat, ty2, ty4, cI, cB, cS, cL, *]
       try (refine hk.use _ _ _ _ ?_; clear hk k))
    | fail)
  all_goals (try rfl)
  all_goals (try (simp; done))
  all_goals (try (simp_all; done))

end Go.Proofs.Ytdlaplgofgklnaa
namespace Go.Proofs.Ytdlaplgofgklnaa
open Go.Proofs Go.Proofs.Ytdlaplgofgklnaa.L
set_option maxHeartbeats 1000000
set_option linter.unusedSimpArgs false
set_option linter.unusedVariables false
set_option maxRecDepth 100000

def impl_isUnary (p0 : Int) : Option (Bool) :=
  (impl_in p0 24 29).bind fun t1 => some t1

theorem c_impl_isUnary {p0 : Int} {r : Bool} (h : impl_isUnary p0 = some r) : Con Try.prog 129 [V.int p0] [] (V.bool r) [] := by
  refine con_of_sw Try.func129 rfl Try.call129 (by simp [Try.ntmps129]) (by simp [V.inNs, V.inN]) (by simp [C.inN, V.inNss, V.inNs, V.inN, inNss_dd]) (by simp [V.inNs, V.inN]) (by simp [C.inN, V.inNss, V.inNs, V.inN, inNss_dd]) rfl ?_
  rw [Try.ntmps129, Try.results129]
  unfold impl_isUnary at h
  replace h := Yes.mk h
  simp only [entryS, entryO, Nat.reduceAdd, List.length_nil, List.length_cons]
  repeat' (first
    | with_reducible refine sw_reg ?_
    | with_reducible refine sw_ret ?_
    | with_reducible refine sw_skip ?_
    | with_reducible refine sw_block ?_
    | with_reducible refine sw_exit ?_
    | with_reducible refine seqQ_normal ?_
    | with_reducible refine blockQ_normal ?_
    | with_reducible refine blockQ_ret ?_
    | with_reducible refine blockQ_this ?_
    | with_reducible refine blockQ_other (by decide) ?_
    | with_reducible refine regW_nil ?_
    | with_reducible refine sw_draw mixed ?_
    | (with_reducible refine regD_nil ?_
       refine ⟨by kernel_rfl, ?_⟩)
    | with_reducible refine retQ_ret ?_
    | with_reducible refine retQ_normal ?_
    | (revert h; (first | ((with_reducible refine idx_elim ?_); intro m hm1 hm2 hm3 h; (try (simp only [Int.reduceToNat] at hm3)); (try (revert hm3; (with_reducible apply same_elim); (focus (with_reducible assumption)); rintro rfl)); (try (simp only [List.length_set, List.length_cons, List.length_nil, List.length_replicate, Nat.reduceAdd, Int.cast_ofNat_Int, Nat.zero_add, List.length_append] at hm2))) | (with_reducible refine sidx_elim ?_; intro m hm1 hm3 h) | (with_reducible refine gd_elim ?_; intro hg h; try (have hg2 := hg.2; have hg := hg.1; (try (simp only [Nat.reduceLeDiff] at hg2)); (try (revert hg2; (with_reducible refine toNat_elim hg ?_); intro hg2 hg4)); try (have hg3 := hg2.2; have hg2 := hg2.1; (try (simp only [Nat.reduceLeDiff] at hg3))))) | fail))
    | with_reducible refine sw_seq ?_
    | with_reducible refine seqQ_ret ?_
    | with_reducible refine seqQ_exit ?_
    | ((with_reducible refine wp_ite ?_ ?_)
       all_goals (intro hc; (try (simp only [Bool.not_eq_true, Bool.not_eq_false] at hc)); (try (revert h; first | (with_reducible refine condt_elim hc ?_; intro h) | (with_reducible refine condf_elim hc ?_; intro h) | fail)); simp only [hc]))
    | (with_reducible apply regW_skip
       · simp only [dstOk, Nat.reduceLT]
       · rfl
       · simp only [putSt, lk, Res.s.injEq, Res.r.injEq, reduceCtorEq, Nat.reduceEqDiff, if_true, if_false]; done)
    | (with_reducible apply regW_yesN
       · simp only [dstOk, Nat.reduceLT]
       · rfl
       · simp only [putSt, lk, Res.s.injEq, Res.r.injEq, reduceCtorEq, Nat.reduceEqDiff, if_true, if_false]; done)
    | (with_reducible apply regW_no
       · simp only [dstOk, Nat.reduceLT]
       · rfl
       · simp only [putSt, lk, Res.s.injEq, Res.r.injEq, reduceCtorEq, Nat.reduceEqDiff, if_true, if_false, Bool.not_true, Bool.not_false]; done)
    | (with_reducible apply regW_guardN
       · simp only [dstOk, Nat.reduceLT]
       · rfl
       · simp only [putSt, lk, Res.s.injEq, Res.r.injEq, reduceCtorEq, Nat.reduceEqDiff, if_true, if_false]; rfl
       all_goals (intro hc; (try (simp only [Bool.not_true, Bool.not_false] at hc)); (try (revert h; first | (with_reducible refine condt_elim hc ?_; intro h) | (with_reducible refine condf_elim hc ?_; intro h) | fail))))
    | ((with_reducible apply sw_cond
        · simp only [putSt, lk, Res.s.injEq, Res.r.injEq, reduceCtorEq, Nat.reduceEqDiff, if_true, if_false]; rfl
        all_goals (intro hc; try (cases hc; done)))
       all_goals (try (revert h; first | (with_reducible refine condt_elim hc ?_; intro h) | (with_reducible refine condf_elim hc ?_; intro h) | fail)))
    | ((first
        | ((with_reducible refine gh_ret ?_)
           revert h
           with_reducible refine some_elim ?_
           rintro rfl)
        | (with_reducible refine here_call ?_
           revert h
           with_reducible refine bind_elim ?_
           intro t ht h
           (first
             | (refine call_dataE (c_impl_in ht) ?_ rfl ?_
                · first | rfl | (simp; done))))
        | (with_reducible apply regD_opK
           · simp only [dstOk, Nat.reduceLT]
           · simp only [Nat.reduceAdd]; rfl
           intro k hk)
        | (with_reducible apply regW_opK
           · simp only [dstOk, Nat.reduceLT]
           · simp only [Nat.reduceAdd]; rfl
           intro k hk)
        | skip)
       simp only [RetW, bn, opC, opP, fetchN, fetchP, fetchAll, fetchO, Prog.bind, Prog.wp, Prog.wp_bind, lk, nameP, nameAll, Value.oneCell', putSt, stepP, putP, Res.s.injEq, Res.r.injEq, reduceCtorEq, V.lin, V.linL, D.lin, isNil, binP, unP, BinOp.isShift, Prog.ofO, true_and, and_true, Nat.reduceAdd, Nat.reduceMul, Nat.reduceSub, Nat.reduceLT, Nat.reduceLeDiff, Nat.reduceEqDiff, if_true, if_false, ite_true, ite_false, Bool.false_eq_true, Bool.not_true, Bool.not_false, Bool.or_false, Bool.or_true, fieldAddrP, fieldP, indexAddrP, loadP, storeP, boxP, allocP, cellsP, asVal, setSeg, outP, outT, cntT, TyK.field, TyK.agg, zeroRow, V.ren, V.renL, forall_eq_or_imp, implies_true, false_implies, forall_const, and_self, true_or, minmaxP, lenP, lenOf, lenStr, V.asInt, decide_true, decide_false, sliceP, boundP, makeSliceP, convertP, appendP, rowsOfP, ontoP, sizeFits, V.rowSize, TyK.src, resV, resV.go, resV.gol, retP, retOne, retAll, resTo, objsAre, Option.map_eq_map, Function.const_apply, Int.reduceNeg, Int.reduceToNat, ty2, ty4, cI, cB, cS, cL, *]
       try (refine hk.use _ _ _ _ ?_; clear hk k))
    | fail)
  all_goals (try rfl)
  all_goals (try (simp; done))
  all_goals (try (simp_all; done))

end Go.Proofs.Ytdlaplgofgklnaa
namespace Go.Proofs.Ytdlaplgofgklnaa
open Go.Proofs Go.Proofs.Ytdlaplgofgklnaa.L
set_option maxHeartbeats 1000000
set_option linter.unusedSimpArgs false
set_option linter.unusedVariables false
set_option maxRecDepth 100000

def impl_Takes.a2 (k : Nat) (a1 : (List GFunc)) (a2 : GI2) : Option ((List GFunc) × GI2 × Bool) :=
  (impl_isBinary a2.a).bind fun t1 => cond t1 (some (a1, a2, true)) (some (a1, a2, (a2.a == 35)))

def impl_Takes.a1 (k : Nat) (a1 : (List GFunc)) (a2 : GI2) : Option ((Int) ⊕ (GI2)) :=
  (impl_Takes.a2 k a1 a2).bind fun o2 => cond o2.2.2 (some (.inl (2))) (cond ((o2.2.1.a == 36)) (some (.inl (3))) (cond ((o2.2.1.a == 32)) ((impl_hasFunc ((⟨o2.1⟩ : GProgram)) o2.2.1.b).bind fun t2 => cond t2 ((idx o2.1 o2.2.1.b).bind fun m3 => some (.inl (m3.args))) (some (.inl (0)))) ((impl_isUnary o2.2.1.a).bind fun t4 => cond t4 (some (.inl (1))) (some (.inr (o2.2.1))))))

def impl_Takes (k : Nat) (p0 : GProgram) (p1 : GI2) : Option (Int) :=
  (impl_Takes.a1 k p0.funcs p1).bind fun o1 => Sum.elim (fun o1l => some o1l) (fun o1r => cond ((o1r.a == 3)) (some 1) (cond ((o1r.a == 4)) (some 1) (cond ((o1r.a == 5)) (some 1) (cond ((o1r.a == 31)) (some 1) (cond ((o1r.a == 33)) (some 1) (cond ((o1r.a == 34)) (some 1) (cond ((o1r.a == 37)) (some 1) (cond ((o1r.a == 38)) (some 1) (some 0))))))))) o1

theorem c_impl_Takes {k : Nat} {p0 : GProgram} {p1 : GI2} {r : Int} (h : impl_Takes k p0 p1 = some r) : Con Try.prog 121 [.agg [.d (.row .bor 3 (Rw (GFunc.cells .bor) p0.funcs))], .agg [V.int p1.a, V.int p1.b]] [] (V.int r) [] := by
  refine con_of_sw Try.func121 rfl Try.call121 (by simp [Try.ntmps121]) (by simp [V.inNs, V.inN]) (by simp [C.inN, V.inNss, V.inNs, V.inN, inNss_dd]) (by simp [V.inNs, V.inN]) (by simp [C.inN, V.inNss, V.inNs, V.inN, inNss_dd]) rfl ?_
  rw [Try.ntmps121, Try.results121]
  unfold impl_Takes at h
  replace h := Yes.mk h
  simp only [entryS, entryO, Nat.reduceAdd, List.length_nil, List.length_cons]
  repeat' (first
    | with_reducible refine sw_reg ?_
    | with_reducible refine sw_ret ?_
    | with_reducible refine sw_skip ?_
    | with_reducible refine sw_block ?_
    | with_reducible refine sw_exit ?_
    | with_reducible refine seqQ_normal ?_
    | with_reducible refine blockQ_normal ?_
    | with_reducible refine blockQ_ret ?_
    | with_reducible refine blockQ_this ?_
    | with_reducible refine blockQ_other (by decide) ?_
    | with_reducible refine regW_nil ?_
    | with_reducible refine sw_draw mixed ?_
    | (with_reducible refine regD_nil ?_
       refine ⟨by kernel_rfl, ?_⟩)
    | with_reducible refine retQ_ret ?_
    | with_reducible refine retQ_normal ?_
    | (revert h; (first | ((with_reducible refine idx_elim ?_); intro m hm1 hm2 hm3 h; (try (simp only [Int.reduceToNat] at hm3)); (try (revert hm3; (with_reducible apply same_elim); (focus (with_reducible assumption)); rintro rfl)); (try (simp only [List.length_set, List.length_cons, List.length_nil, List.length_replicate, Nat.reduceAdd, Int.cast_ofNat_Int, Nat.zero_add, List.length_append] at hm2))) | (with_reducible refine sidx_elim ?_; intro m hm1 hm3 h) | (with_reducible refine gd_elim ?_; intro hg h; try (have hg2 := hg.2; have hg := hg.1; (try (simp only [Nat.reduceLeDiff] at hg2)); (try (revert hg2; (with_reducible refine toNat_elim hg ?_); intro hg2 hg4)); try (have hg3 := hg2.2; have hg2 := hg2.1; (try (simp only [Nat.reduceLeDiff] at hg3))))) | fail))
    | ((first | with_reducible refine seqQ_ret (K := (fun st1 n1 => Gh st1 n1 (MeetA _ 20000000 _ _))) ?_ | with_reducible refine seqQ_exit (K := (fun st1 n1 => Gh st1 n1 (MeetA _ 20000000 _ _))) ?_)
       obtain rfl := h.get
       have h := hK2
       (try (simp only [Sum.elim_inl, Sum.elim_inr] at h)))
    | ((first | with_reducible refine seqQ_ret (K := (fun st1 n1 => Gh st1 n1 (MeetA _ 10000000 _ _))) ?_ | with_reducible refine seqQ_exit (K := (fun st1 n1 => Gh st1 n1 (MeetA _ 10000000 _ _))) ?_)
       obtain rfl := h.get
       have h := hK1
       (try (simp only [Sum.elim_inl, Sum.elim_inr] at h)))
    | (with_reducible refine here_join (a := (.seq (.region 1 _ _) _)) (b := (.cond (.tmp 5) _ _)) ?_
       skip
       revert h
       with_reducible refine bind_elimY ?_
       intro o2 h hK2
       unfold impl_Takes.a2 at h
       refine sw_join (ι := (List GFunc) × GI2 × Bool) 20000000 (fun x : (List GFunc) × GI2 × Bool => [(.s 2, some (.v (.mp 0 1 0 0))), (.s 3, some (.v (.mp 64 2 0 0))), (.s 5, some (.v (V.bool x.2.2))), (.r 0, some (.o 1 [[.d (.row .bor 3 (Rw (GFunc.cells .bor) x.1))]])), (.r 64, some (.o 2 [[V.int x.2.1.a, V.int x.2.1.b]]))]) (fun x => Yes (some (x)) o2) ?_ ?_
       rotate_left
       rintro ⟨b1, b2, b3⟩ h
       obtain rfl := h.get
       have h := hK2
       (try (simp only [Sum.elim_inl, Sum.elim_inr] at h))
       refine sw_gh ?_
       refine gh_sw ?_
       skip)
    | (with_reducible refine here_meet (N0 := 20000000) ?_
       skip
       refine meet_to (_, _, _) (by decide) ?_ h ?_
       · exact (by simp [slNL, C.inN, V.inN, V.inNs, V.inNss, inNss_dd, inNs_map_d])
       · simp only [SubL, putSt, lk, Res.s.injEq, Res.r.injEq, reduceCtorEq, Nat.reduceEqDiff, if_true, if_false, List.length_set, List.length_replicate]; repeat' (first | apply And.intro | rfl | trivial | (simp only [*]; done)))
    | (with_reducible refine here_join (a := (.block 0 _)) (b := (.seq (.seq (.region 12 _ _) _) _)) ?_
       skip
       revert h
       with_reducible refine bind_elimY ?_
       intro o1 h hK1
       unfold impl_Takes.a1 at h
       refine sw_join (ι := GI2) 10000000 (fun x : GI2 => [(.s 3, some (.v (.mp 64 2 0 0))), (.r 64, some (.o 2 [[V.int x.a, V.int x.b]]))]) (fun x => Yes (some (.inr x)) o1) ?_ ?_
       rotate_left
       rintro b1 h
       obtain rfl := h.get
       have h := hK1
       (try (simp only [Sum.elim_inl, Sum.elim_inr] at h))
       refine sw_gh ?_
       refine gh_sw ?_
       skip)
    | (with_reducible refine here_meet (N0 := 10000000) ?_
       skip
       refine meet_to (_) (by decide) ?_ h ?_
       · exact (by simp [slNL, C.inN, V.inN, V.inNs, V.inNss, inNss_dd, inNs_map_d])
       · simp only [SubL, putSt, lk, Res.s.injEq, Res.r.injEq, reduceCtorEq, Nat.reduceEqDiff, if_true, if_false, List.length_set, List.length_replicate]; repeat' (first | apply And.intro | rfl | trivial | (simp only [*]; done)))
    | with_reducible refine sw_seq ?_
    | with_reducible refine seqQ_ret ?_
    | with_reducible refine seqQ_exit ?_
    | ((with_reducible refine wp_ite ?_ ?_)
       all_goals (intro hc; (try (simp only [Bool.not_eq_true, Bool.not_eq_false] at hc)); (try (revert h; first | (with_reducible refine condt_elim hc ?_; intro h) | (with_reducible refine condf_elim hc ?_; intro h) | fail)); simp only [hc]))
    | (with_reducible apply regW_skip
       · simp only [dstOk, Nat.reduceLT]
       · rfl
       · simp only [putSt, lk, Res.s.injEq, Res.r.injEq, reduceCtorEq, Nat.reduceEqDiff, if_true, if_false]; done)
    | (with_reducible apply regW_yesN
       · simp only [dstOk, Nat.reduceLT]
       · rfl
       · simp only [putSt, lk, Res.s.injEq, Res.r.injEq, reduceCtorEq, Nat.reduceEqDiff, if_true, if_false]; done)
    | (with_reducible apply regW_no
       · simp only [dstOk, Nat.reduceLT]
       · rfl
       · simp only [putSt, lk, Res.s.injEq, Res.r.injEq, reduceCtorEq, Nat.reduceEqDiff, if_true, if_false, Bool.not_true, Bool.not_false]; done)
    | (with_reducible apply regW_guardN
       · simp only [dstOk, Nat.reduceLT]
       · rfl
       · simp only [putSt, lk, Res.s.injEq, Res.r.injEq, reduceCtorEq, Nat.reduceEqDiff, if_true, if_false]; rfl
       all_goals (intro hc; (try (simp only [Bool.not_true, Bool.not_false] at hc)); (try (revert h; first | (with_reducible refine condt_elim hc ?_; intro h) | (with_reducible refine condf_elim hc ?_; intro h) | fail))))
    | ((with_reducible apply sw_cond
        · simp only [putSt, lk, Res.s.injEq, Res.r.injEq, reduceCtorEq, Nat.reduceEqDiff, if_true, if_false]; rfl
        all_goals (intro hc; try (cases hc; done)))
       all_goals (try (revert h; first | (with_reducible refine condt_elim hc ?_; intro h) | (with_reducible refine condf_elim hc ?_; intro h) | fail)))
    | ((first
        | ((with_reducible refine gh_ret ?_)
           revert h
           with_reducible refine some_elim ?_
           rintro rfl)
        | (with_reducible refine here_call ?_
           revert h
           with_reducible refine bind_elim ?_
           intro t ht h
           (first
             | (refine call_dataE (c_impl_hasFunc ht) ?_ rfl ?_
                · first | rfl | (simp; done))
             | (refine call_dataE (c_impl_isBinary ht) ?_ rfl ?_
                · first | rfl | (simp; done))
             | (refine call_dataE (c_impl_isUnary ht) ?_ rfl ?_
                · first | rfl | (simp; done))))
        | (with_reducible apply regD_opK
           · simp only [dstOk, Nat.reduceLT]
           · simp only [Nat.reduceAdd]; rfl
           intro k hk)
        | (with_reducible apply regW_opK
           · simp only [dstOk, Nat.reduceLT]
           · simp only [Nat.reduceAdd]; rfl
           intro k hk)
        | skip)
       simp only [RetW, bn, opC, opP, fetchN, fetchP, fetchAll, fetchO, Prog.bind, Prog.wp, Prog.wp_bind, lk, nameP, nameAll, Value.oneCell', putSt, stepP, putP, Res.s.injEq, Res.r.injEq, reduceCtorEq, V.lin, V.linL, D.lin, isNil, binP, unP, BinOp.isShift, Prog.ofO, true_and, and_true, Nat.reduceAdd, Nat.reduceMul, Nat.reduceSub, Nat.reduceLT, Nat.reduceLeDiff, Nat.reduceEqDiff, if_true, if_false, ite_true, ite_false, Bool.false_eq_true, Bool.not_true, Bool.not_false, Bool.or_false, Bool.or_true, fieldAddrP, fieldP, indexAddrP, loadP, storeP, boxP, allocP, cellsP, asVal, setSeg, outP, outT, cntT, TyK.field, TyK.agg, zeroRow, V.ren, V.renL, forall_eq_or_imp, implies_true, false_implies, forall_const, and_self, true_or, minmaxP, lenP, lenOf, lenStr, V.asInt, decide_true, decide_false, sliceP, boundP, makeSliceP, convertP, appendP, rowsOfP, ontoP, sizeFits, V.rowSize, TyK.src, resV, resV.go, resV.gol, retP, retOne, retAll, resTo, objsAre, Option.map_eq_map, Function.const_apply, Int.reduceNeg, Int.reduceToNat, ty2, ty28, ty30, ty63, ty65, ty107, GFunc.cells, GI2.cells, GProgram.cells, cI, cB, cS, cL, GI2_e, GFunc_e, GProgram_e, LGI2_e, *]
       try (refine hk.use _ _ _ _ ?_; clear hk k))
    | fail)
  all_goals (try rfl)
  all_goals (try (simp; done))
  all_goals (try (simp_all; done))

end Go.Proofs.Ytdlaplgofgklnaa
namespace Go.Proofs.Ytdlaplgofgklnaa
open Go.Proofs Go.Proofs.Ytdlaplgofgklnaa.L
set_option maxHeartbeats 1000000
set_option linter.unusedSimpArgs false
set_option linter.unusedVariables false
set_option maxRecDepth 100000

def impl_isArith (p0 : Int) : Option (Bool) :=
  (impl_in p0 10 29).bind fun t1 => some t1

theorem c_impl_isArith {p0 : Int} {r : Bool} (h : impl_isArith p0 = some r) : Con Try.prog 130 [V.int p0] [] (V.bool r) [] := by
  refine con_of_sw Try.func130 rfl Try.call130 (by simp [Try.ntmps130]) (by simp [V.inNs, V.inN]) (by simp [C.inN, V.inNss, V.inNs, V.inN, inNss_dd]) (by simp [V.inNs, V.inN]) (by simp [C.inN, V.inNss, V.inNs, V.inN, inNss_dd]) rfl ?_
  rw [Try.ntmps130, Try.results130]
  unfold impl_isArith at h
  replace h := Yes.mk h
  simp only [entryS, entryO, Nat.reduceAdd, List.length_nil, List.length_cons]
  repeat' (first
    | with_reducible refine sw_reg ?_
    | with_reducible refine sw_ret ?_
    | with_reducible refine sw_skip ?_
    | with_reducible refine sw_block ?_
    | with_reducible refine sw_exit ?_
    | with_reducible refine seqQ_normal ?_
    | with_reducible refine blockQ_normal ?_
    | with_reducible refine blockQ_ret ?_
    | with_reducible refine blockQ_this ?_
    | with_reducible refine blockQ_other (by decide) ?_
    | with_reducible refine regW_nil ?_
    | with_reducible refine sw_draw mixed ?_
    | (with_reducible refine regD_nil ?_
       refine ⟨by kernel_rfl, ?_⟩)
    | with_reducible refine retQ_ret ?_
    | with_reducible refine retQ_normal ?_
    | (revert h; (first | ((with_reducible refine idx_elim ?_); intro m hm1 hm2 hm3 h; (try (simp only [Int.reduceToNat] at hm3)); (try (revert hm3; (with_reducible apply same_elim); (focus (with_reducible assumption)); rintro rfl)); (try (simp only [List.length_set, List.length_cons, List.length_nil, List.length_replicate, Nat.reduceAdd, Int.cast_ofNat_Int, Nat.zero_add, List.length_append] at hm2))) | (with_reducible refine sidx_elim ?_; intro m hm1 hm3 h) | (with_reducible refine gd_elim ?_; intro hg h; try (have hg2 := hg.2; have hg := hg.1; (try (simp only [Nat.reduceLeDiff] at hg2)); (try (revert hg2; (with_reducible refine toNat_elim hg ?_); intro hg2 hg4)); try (have hg3 := hg2.2; have hg2 := hg2.1; (try (simp only [Nat.reduceLeDiff] at hg3))))) | fail))
    | with_reducible refine sw_seq ?_
    | with_reducible refine seqQ_ret ?_
    | with_reducible refine seqQ_exit ?_
    | ((with_reducible refine wp_ite ?_ ?_)
       all_goals (intro hc; (try (simp only [Bool.not_eq_true, Bool.not_eq_false] at hc)); (try (revert h; first | (with_reducible refine condt_elim hc ?_; intro h) | (with_reducible refine condf_elim hc ?_; intro h) | fail)); simp only [hc]))
    | (with_reducible apply regW_skip
       · simp only [dstOk, Nat.reduceLT]
       · rfl
       · simp only [putSt, lk, Res.s.injEq, Res.r.injEq, reduceCtorEq, Nat.reduceEqDiff, if_true, if_false]; done)
    | (with_reducible apply regW_yesN
       · simp only [dstOk, Nat.reduceLT]
       · rfl
       · simp only [putSt, lk, Res.s.injEq, Res.r.injEq, reduceCtorEq, Nat.reduceEqDiff, if_true, if_false]; done)
    | (with_reducible apply regW_no
       · simp only [dstOk, Nat.reduceLT]
       · rfl
       · simp only [putSt, lk, Res.s.injEq, Res.r.injEq, reduceCtorEq, Nat.reduceEqDiff, if_true, if_false, Bool.not_true, Bool.not_false]; done)
    | (with_reducible apply regW_guardN
       · simp only [dstOk, Nat.reduceLT]
       · rfl
       · simp only [putSt, lk, Res.s.injEq, Res.r.injEq, reduceCtorEq, Nat.reduceEqDiff, if_true, if_false]; rfl
       all_goals (intro hc; (try (simp only [Bool.not_true, Bool.not_false] at hc)); (try (revert h; first | (with_reducible refine condt_elim hc ?_; intro h) | (with_reducible refine condf_elim hc ?_; intro h) | fail))))
    | ((with_reducible apply sw_cond
        · simp only [putSt, lk, Res.s.injEq, Res.r.injEq, reduceCtorEq, Nat.reduceEqDiff, if_true, if_false]; rfl
        all_goals (intro hc; try (cases hc; done)))
       all_goals (try (revert h; first | (with_reducible refine condt_elim hc ?_; intro h) | (with_reducible refine condf_elim hc ?_; intro h) | fail)))
    | ((first
        | ((with_reducible refine gh_ret ?_)
           revert h
           with_reducible refine some_elim ?_
           rintro rfl)
        | (with_reducible refine here_call ?_
           revert h
           with_reducible refine bind_elim ?_
           intro t ht h
           (first
             | (refine call_dataE (c_impl_in ht) ?_ rfl ?_
                · first | rfl | (simp; done))))
        | (with_reducible apply regD_opK
           · simp only [dstOk, Nat.reduceLT]
           · simp only [Nat.reduceAdd]; rfl
           intro k hk)
        | (with_reducible apply regW_opK
           · simp only [dstOk, Nat.reduceLT]
           · simp only [Nat.reduceAdd]; rfl
           intro k hk)
        | skip)
       simp only [RetW, bn, opC, opP, fetchN, fetchP, fetchAll, fetchO, Prog.bind, Prog.wp, Prog.wp_bind, lk, nameP, nameAll, Value.oneCell', putSt, stepP, putP, Res.s.injEq, Res.r.injEq, reduceCtorEq, V.lin, V.linL, D.lin, isNil, binP, unP, BinOp.isShift, Prog.ofO, true_and, and_true, Nat.reduceAdd, Nat.reduceMul, Nat.reduceSub, Nat.reduceLT, Nat.reduceLeDiff, Nat.reduceEqDiff, if_true, if_false, ite_true, ite_false, Bool.false_eq_true, Bool.not_true, Bool.not_false, Bool.or_false, Bool.or_true, fieldAddrP, fieldP, indexAddrP, loadP, storeP, boxP, allocP, cellsP, asVal, setSeg, outP, outT, cntT, TyK.field, TyK.agg, zeroRow, V.ren, V.renL, forall_eq_or_imp, implies_true, false_implies, forall_const, and_self, true_or, minmaxP, lenP, lenOf, lenStr, V.asInt, decide_true, decide_false, sliceP, boundP, makeSliceP, convertP, appendP, rowsOfP, ontoP, sizeFits, V.rowSize, TyK.src, resV, resV.go, resV.gol, retP, retOne, retAll, resTo, objsAre, Option.map_eq_map, Function.const_apply, Int.reduceNeg, Int.reduceToNat, ty2, ty4, cI, cB, cS, cL, *]
       try (refine hk.use _ _ _ _ ?_; clear hk k))
    | fail)
  all_goals (try rfl)
  all_goals (try (simp; done))
  all_goals (try (simp_all; done))

end Go.Proofs.Ytdlaplgofgklnaa
namespace Go.Proofs.Ytdlaplgofgklnaa
open Go.Proofs Go.Proofs.Ytdlaplgofgklnaa.L
set_option maxHeartbeats 1000000
set_option linter.unusedSimpArgs false
set_option linter.unusedVariables false
set_option maxRecDepth 100000

def impl_Puts (p0 : GI2) : Option (Int) :=
  cond ((p0.a == 4)) (some 2) (cond ((p0.a == 1)) (some 1) (cond ((p0.a == 2)) (some 1) (cond ((p0.a == 32)) (some 1) (cond ((p0.a == 34)) (some 1) (cond ((p0.a == 35)) (some 1) (cond ((p0.a == 37)) (some 1) ((impl_isArith p0.a).bind fun t1 => cond t1 (some 1) (some 0))))))))

theorem c_impl_Puts {p0 : GI2} {r : Int} (h : impl_Puts p0 = some r) : Con Try.prog 122 [.agg [V.int p0.a, V.int p0.b]] [] (V.int r) [] := by
  refine con_of_sw Try.func122 rfl Try.call122 (by simp [Try.ntmps122]) (by simp [V.inNs, V.inN]) (by simp [C.inN, V.inNss, V.inNs, V.inN, inNss_dd]) (by simp [V.inNs, V.inN]) (by simp [C.inN, V.inNss, V.inNs, V.inN, inNss_dd]) rfl ?_
  rw [Try.ntmps122, Try.results122]
  unfold impl_Puts at h
  replace h := Yes.mk h
  simp only [entryS, entryO, Nat.reduceAdd, List.length_nil, List.length_cons]
  repeat' (first
    | with_reducible refine sw_reg ?_
    | with_reducible refine sw_ret ?_
    | with_reducible refine sw_skip ?_
    | with_reducible refine sw_block ?_
    | with_reducible refine sw_exit ?_
    | with_reducible refine seqQ_normal ?_
    | with_reducible refine blockQ_normal ?_
    | with_reducible refine blockQ_ret ?_
    | with_reducible refine blockQ_this ?_
    | with_reducible refine blockQ_other (by decide) ?_
    | with_reducible refine regW_nil ?_
    | with_reducible refine sw_draw mixed ?_
    | (with_reducible refine regD_nil ?_
       refine ⟨by kernel_rfl, ?_⟩)
    | with_reducible refine retQ_ret ?_
    | with_reducible refine retQ_normal ?_
    | (revert h; (first | ((with_reducible refine idx_elim ?_); intro m hm1 hm2 hm3 h; (try (simp only [Int.reduceToNat] at hm3)); (try (revert hm3; (with_reducible apply same_elim); (focus (with_reducible assumption)); rintro rfl)); (try (simp only [List.length_set, List.length_cons, List.length_nil, List.length_replicate, Nat.reduceAdd, Int.cast_ofNat_Int, Nat.zero_add, List.length_append] at hm2))) | (with_reducible refine sidx_elim ?_; intro m hm1 hm3 h) | (with_reducible refine gd_elim ?_; intro hg h; try (have hg2 := hg.2; have hg := hg.1; (try (simp only [Nat.reduceLeDiff] at hg2)); (try (revert hg2; (with_reducible refine toNat_elim hg ?_); intro hg2 hg4)); try (have hg3 := hg2.2; have hg2 := hg2.1; (try (simp only [Nat.reduceLeDiff] at hg3))))) | fail))
    | with_reducible refine sw_seq ?_
    | with_reducible refine seqQ_ret ?_
    | with_reducible refine seqQ_exit ?_
    | ((with_reducible refine wp_ite ?_ ?_)
       all_goals (intro hc; (try (simp only [Bool.not_eq_true, Bool.not_eq_false] at hc)); (try (revert h; first | (with_reducible refine condt_elim hc ?_; intro h) | (with_reducible refine condf_elim hc ?_; intro h) | fail)); simp only [hc]))
    | (with_reducible apply regW_skip
       · simp only [dstOk, Nat.reduceLT]
       · rfl
       · simp only [putSt, lk, Res.s.injEq, Res.r.injEq, reduceCtorEq, Nat.reduceEqDiff, if_true, if_false]; done)
    | (with_reducible apply regW_yesN
       · simp only [dstOk, Nat.reduceLT]
       · rfl
       · simp only [putSt, lk, Res.s.injEq, Res.r.injEq, reduceCtorEq, Nat.reduceEqDiff, if_true, if_false]; done)
    | (with_reducible apply regW_no
       · simp only [dstOk, Nat.reduceLT]
       · rfl
       · simp only [putSt, lk, Res.s.injEq, Res.r.injEq, reduceCtorEq, Nat.reduceEqDiff, if_true, if_false, Bool.not_true, Bool.not_false]; done)
    | (with_reducible apply regW_guardN
       · simp only [dstOk, Nat.reduceLT]
       · rfl
       · simp only [putSt, lk, Res.s.injEq, Res.r.injEq, reduceCtorEq, Nat.reduceEqDiff, if_true, if_false]; rfl
       all_goals (intro hc; (try (simp only [Bool.not_true, Bool.not_false] at hc)); (try (revert h; first | (with_reducible refine condt_elim hc ?_; intro h) | (with_reducible refine condf_elim hc ?_; intro h) | fail))))
    | ((with_reducible apply sw_cond
        · simp only [putSt, lk, Res.s.injEq, Res.r.injEq, reduceCtorEq, Nat.reduceEqDiff, if_true, if_false]; rfl
        all_goals (intro hc; try (cases hc; done)))
       all_goals (try (revert h; first | (with_reducible refine condt_elim hc ?_; intro h) | (with_reducible refine condf_elim hc ?_; intro h) | fail)))
    | ((first
        | ((with_reducible refine gh_ret ?_)
           revert h
           with_reducible refine some_elim ?_
           rintro rfl)
        | (with_reducible refine here_call ?_
           revert h
           with_reducible refine bind_elim ?_
           intro t ht h
           (first
             | (refine call_dataE (c_impl_isArith ht) ?_ rfl ?_
                · first | rfl | (simp; done))))
        | (with_reducible apply regD_opK
           · simp only [dstOk, Nat.reduceLT]
           · simp only [Nat.reduceAdd]; rfl
           intro k hk)
        | (with_reducible apply regW_opK
           · simp only [dstOk, Nat.reduceLT]
           · simp only [Nat.reduceAdd]; rfl
           intro k hk)
        | skip)
       simp only [RetW, bn, opC, opP, fetchN, fetchP, fetchAll, fetchO, Prog.bind, Prog.wp, Prog.wp_bind, lk, nameP, nameAll, Value.oneCell', putSt, stepP, putP, Res.s.injEq, Res.r.injEq, reduceCtorEq, V.lin, V.linL, D.lin, isNil, binP, unP, BinOp.isShift, Prog.ofO, true_and, and_true, Nat.reduceAdd, Nat.reduceMul, Nat.reduceSub, Nat.reduceLT, Nat.reduceLeDiff, Nat.reduceEqDiff, if_true, if_false, ite_true, ite_false, Bool.false_eq_true, Bool.not_true, Bool.not_false, Bool.or_false, Bool.or_true, fieldAddrP, fieldP, indexAddrP, loadP, storeP, boxP, allocP, cellsP, asVal, setSeg, outP, outT, cntT, TyK.field, TyK.agg, zeroRow, V.ren, V.renL, forall_eq_or_imp, implies_true, false_implies, forall_const, and_self, true_or, minmaxP, lenP, lenOf, lenStr, V.asInt, decide_true, decide_false, sliceP, boundP, makeSliceP, convertP, appendP, rowsOfP, ontoP, sizeFits, V.rowSize, TyK.src, resV, resV.go, resV.gol, retP, retOne, retAll, resTo, objsAre, Option.map_eq_map, Function.const_apply, Int.reduceNeg, Int.reduceToNat, ty2, ty107, GI2.cells, cI, cB, cS, cL, GI2_e, *]
       try (refine hk.use _ _ _ _ ?_; clear hk k))
    | fail)
  all_goals (try rfl)
  all_goals (try (simp; done))
  all_goals (try (simp_all; done))

end Go.Proofs.Ytdlaplgofgklnaa
namespace Go.Proofs.Ytdlaplgofgklnaa
open Go.Proofs Go.Proofs.Ytdlaplgofgklnaa.L
set_option maxHeartbeats 1000000
set_option linter.unusedSimpArgs false
set_option linter.unusedVariables false
set_option maxRecDepth 100000

def impl_next (p0 : GI2) (p1 : Int) : Option ((List Int)) :=
  cond ((p0.a == 33)) (some []) (cond ((p0.a == 30)) (some ([p0.b])) (cond ((p0.a == 31)) (some ([(IntKind.i64.wrap (p1 + 1)), p0.b])) (some ([(IntKind.i64.wrap (p1 + 1))]))))

theorem c_impl_next {p0 : GI2} {p1 : Int} {r : (List Int)} (h : impl_next p0 p1 = some r) : Con Try.prog 73 [.agg [V.int p0.a, V.int p0.b], V.int p1] [] (.d (.row .own 1 (Rw (cI .i64) r))) [] := by
  refine con_of_sw Try.func73 rfl Try.call73 (by simp [Try.ntmps73]) (by simp [V.inNs, V.inN]) (by simp [C.inN, V.inNss, V.inNs, V.inN, inNss_dd]) (by simp [V.inNs, V.inN]) (by simp [C.inN, V.inNss, V.inNs, V.inN, inNss_dd]) rfl ?_
  rw [Try.ntmps73, Try.results73]
  unfold impl_next at h
  replace h := Yes.mk h
  simp only [entryS, entryO, Nat.reduceAdd, List.length_nil, List.length_cons]
  repeat' (first
    | with_reducible refine sw_reg ?_
    | with_reducible refine sw_ret ?_
    | with_reducible refine sw_skip ?_
    | with_reducible refine sw_block ?_
    | with_reducible refine sw_exit ?_
    | with_reducible refine seqQ_normal ?_
    | with_reducible refine blockQ_normal ?_
    | with_reducible refine blockQ_ret ?_
    | with_reducible refine blockQ_this ?_
    | with_reducible refine blockQ_other (by decide) ?_
    | with_reducible refine regW_nil ?_
    | with_reducible refine sw_draw mixed ?_
    | (with_reducible refine regD_nil ?_
       refine ⟨by kernel_rfl, ?_⟩)
    | with_reducible refine retQ_ret ?_
    | with_reducible refine retQ_normal ?_
    | (revert h; (first | ((with_reducible refine idx_elim ?_); intro m hm1 hm2 hm3 h; (try (simp only [Int.reduceToNat] at hm3)); (try (revert hm3; (with_reducible apply same_elim); (focus (with_reducible assumption)); rintro rfl)); (try (simp only [List.length_set, List.length_cons, List.length_nil, List.length_replicate, Nat.reduceAdd, Int.cast_ofNat_Int, Nat.zero_add, List.length_append] at hm2))) | (with_reducible refine sidx_elim ?_; intro m hm1 hm3 h) | (with_reducible refine gd_elim ?_; intro hg h; try (have hg2 := hg.2; have hg := hg.1; (try (simp only [Nat.reduceLeDiff] at hg2)); (try (revert hg2; (with_reducible refine toNat_elim hg ?_); intro hg2 hg4)); try (have hg3 := hg2.2; have hg2 := hg2.1; (try (simp only [Nat.reduceLeDiff] at hg3))))) | fail))
    | with_reducible refine sw_seq ?_
    | with_reducible refine seqQ_ret ?_
    | with_reducible refine seqQ_exit ?_
    | (with_reducible refine gh_nilRow 4 .own 1 ?_ ?_
       · simp only [putSt, lk, Res.s.injEq, Res.r.injEq, reduceCtorEq, Nat.reduceEqDiff, if_true, if_false]; done
       skip)
    | ((with_reducible refine wp_ite ?_ ?_)
       all_goals (intro hc; (try (simp only [Bool.not_eq_true, Bool.not_eq_false] at hc)); (try (revert h; first | (with_reducible refine condt_elim hc ?_; intro h) | (with_reducible refine condf_elim hc ?_; intro h) | fail)); simp only [hc]))
    | (with_reducible apply regW_skip
       · simp only [dstOk, Nat.reduceLT]
       · rfl
       · simp only [putSt, lk, Res.s.injEq, Res.r.injEq, reduceCtorEq, Nat.reduceEqDiff, if_true, if_false]; done)
    | (with_reducible apply regW_yesN
       · simp only [dstOk, Nat.reduceLT]
       · rfl
       · simp only [putSt, lk, Res.s.injEq, Res.r.injEq, reduceCtorEq, Nat.reduceEqDiff, if_true, if_false]; done)
    | (with_reducible apply regW_no
       · simp only [dstOk, Nat.reduceLT]
       · rfl
       · simp only [putSt, lk, Res.s.injEq, Res.r.injEq, reduceCtorEq, Nat.reduceEqDiff, if_true, if_false, Bool.not_true, Bool.not_false]; done)
    | (with_reducible apply regW_guardN
       · simp only [dstOk, Nat.reduceLT]
       · rfl
       · simp only [putSt, lk, Res.s.injEq, Res.r.injEq, reduceCtorEq, Nat.reduceEqDiff, if_true, if_false]; rfl
       all_goals (intro hc; (try (simp only [Bool.not_true, Bool.not_false] at hc)); (try (revert h; first | (with_reducible refine condt_elim hc ?_; intro h) | (with_reducible refine condf_elim hc ?_; intro h) | fail))))
    | ((with_reducible apply sw_cond
        · simp only [putSt, lk, Res.s.injEq, Res.r.injEq, reduceCtorEq, Nat.reduceEqDiff, if_true, if_false]; rfl
        all_goals (intro hc; try (cases hc; done)))
       all_goals (try (revert h; first | (with_reducible refine condt_elim hc ?_; intro h) | (with_reducible refine condf_elim hc ?_; intro h) | fail)))
    | ((first
        | ((with_reducible refine gh_ret ?_)
           revert h
           with_reducible refine some_elim ?_
           rintro rfl)
        | (with_reducible apply regD_opK
           · simp only [dstOk, Nat.reduceLT]
           · simp only [Nat.reduceAdd]; rfl
           intro k hk)
        | (with_reducible apply regW_opK
           · simp only [dstOk, Nat.reduceLT]
           · simp only [Nat.reduceAdd]; rfl
           intro k hk)
        | skip)
       simp only [RetW, bn, opC, opP, fetchN, fetchP, fetchAll, fetchO, Prog.bind, Prog.wp, Prog.wp_bind, lk, nameP, nameAll, Value.oneCell', putSt, stepP, putP, Res.s.injEq, Res.r.injEq, reduceCtorEq, V.lin, V.linL, D.lin, isNil, binP, unP, BinOp.isShift, Prog.ofO, true_and, and_true, Nat.reduceAdd, Nat.reduceMul, Nat.reduceSub, Nat.reduceLT, Nat.reduceLeDiff, Nat.reduceEqDiff, if_true, if_false, ite_true, ite_false, Bool.false_eq_true, Bool.not_true, Bool.not_false, Bool.or_false, Bool.or_true, fieldAddrP, fieldP, indexAddrP, loadP, storeP, boxP, allocP, cellsP, asVal, setSeg, outP, outT, cntT, TyK.field, TyK.agg, zeroRow, V.ren, V.renL, forall_eq_or_imp, implies_true, false_implies, forall_const, and_self, true_or, minmaxP, lenP, lenOf, lenStr, V.asInt, decide_true, decide_false, sliceP, boundP, makeSliceP, convertP, appendP, rowsOfP, ontoP, sizeFits, V.rowSize, TyK.src, resV, resV.go, resV.gol, retP, retOne, retAll, resTo, objsAre, Option.map_eq_map, Function.const_apply, Int.reduceNeg, Int.reduceToNat, ty2, ty26, ty107, GI2.cells, cI, cB, cS, cL, GI2_e, LcIi64_e, buildP, buildSliceP, putParts, structPlaces, chunks, List.replicate, List.flatten_nil, List.flatten_cons, Option.bind_some, bb, GI2_b, LcIi64_b, nilEqP, ne_eq, not_false_eq_true, not_true_eq_false, *]
       try (refine hk.use _ _ _ _ ?_; clear hk k))
    | fail)
  all_goals (try rfl)
  all_goals (try (simp; done))
  all_goals (try (simp_all; done))

end Go.Proofs.Ytdlaplgofgklnaa
namespace Go.Proofs.Ytdlaplgofgklnaa
open Go.Proofs Go.Proofs.Ytdlaplgofgklnaa.L
set_option maxHeartbeats 1000000
set_option linter.unusedSimpArgs false
set_option linter.unusedVariables false
set_option maxRecDepth 100000

def impl_heightsOf.l1 : Nat → (List GFunc) → (List Int) → (List Bool) → (List GI2) → Int → Int → Option ((List GFunc) × (List Int) × (List Bool) × (List GI2))
  | 0, _, _, _, _, _, _ => none
  | k + 1, a1, a2, a3, a4, a5, a6 => cond ((decide (a6 < a5))) ((idx a2 a6).bind fun m2 => impl_heightsOf.l1 k a1 ((a2.set a6.toNat ((-1)))) a3 a4 a5 ((IntKind.i64.wrap (a6 + 1)))) (some (a1, a2, a3, a4))

def impl_heightsOf.a3 (k : Nat) (a1 : (List GFunc)) (a2 : (List Int)) (a3 : (List Bool)) (a4 : GI2) (a5 : (List GI2)) (a6 : Int) (a7 : Int) : Option (((List Int) × Int × Int) ⊕ ((List GFunc) × (List Int) × (List Bool) × GI2 × (List GI2) × Int × Int)) :=
  cond ((decide (a7 < 0))) (some (.inl (a2, a6, 5))) ((impl_Puts a4).bind fun t9 => cond ((decide (((IntKind.i64.wrap (a7 + t9))) > 8))) (some (.inl (a2, a6, 5))) (some (.inr (a1, a2, a3, a4, a5, a6, a7))))

def impl_heightsOf.a5 (k : Nat) (a1 : (List GFunc)) (a2 : (List Int)) (a3 : (List Bool)) (a4 : GI2) (a5 : (List Int)) (a6 : (List GI2)) (a7 : Int) (a8 : Int) (a9 : Int) (a10 : Int) (a11 : Int) (a12 : Int) : Option (((List Int) × Int × Int) ⊕ ((List GFunc) × (List Int) × (List Bool) × GI2 × (List Int) × (List GI2) × Int × Int × Int × Int × Int × Int)) :=
  (idx a2 a10).bind fun m12 => cond ((decide (m12 ≥ 0))) ((impl_Puts a4).bind fun t13 => cond ((m12 != ((IntKind.i64.wrap (a8 + t13))))) (some (.inl (a2, a7, 5))) (some (.inr (a1, a2, a3, a4, a5, a6, a7, a8, a9, a10, a11, a12)))) (some (.inr (a1, a2, a3, a4, a5, a6, a7, a8, a9, a10, a11, a12)))

def impl_heightsOf.l4 : Nat → (List GFunc) → (List Int) → (List Bool) → GI2 → (List Int) → (List GI2) → Int → Int → Int → Int → Int → Option (((List Int) × Int × Int) ⊕ ((List GFunc) × (List Int) × (List Bool) × (List GI2) × Int))
  | 0, _, _, _, _, _, _, _, _, _, _, _ => none
  | k + 1, a1, a2, a3, a4, a5, a6, a7, a8, a9, a10, a11 => cond ((decide (a11 < a10))) ((idx a5 a11).bind fun m11 => cond ((m11 == ((a6.length : Int)))) (some (.inl (a2, a7, 6))) ((impl_heightsOf.a5 k a1 a2 a3 a4 a5 a6 a7 a8 a9 m11 a10 a11).bind fun o5 => Sum.elim (fun o5l => some (.inl (o5l.1, o5l.2.1, o5l.2.2))) (fun o5r => (idx o5r.2.1 o5r.2.2.2.2.2.2.2.2.2.1).bind fun m14 => cond ((decide (m14 < 0))) ((impl_Puts o5r.2.2.2.1).bind fun t15 => (idx o5r.2.2.1 o5r.2.2.2.2.2.2.2.2.2.1).bind fun m16 => impl_heightsOf.l4 k o5r.1 ((o5r.2.1.set o5r.2.2.2.2.2.2.2.2.2.1.toNat ((IntKind.i64.wrap (o5r.2.2.2.2.2.2.2.1 + t15))))) ((o5r.2.2.1.set o5r.2.2.2.2.2.2.2.2.2.1.toNat true)) o5r.2.2.2.1 o5r.2.2.2.2.1 o5r.2.2.2.2.2.1 o5r.2.2.2.2.2.2.1 o5r.2.2.2.2.2.2.2.1 ((if decide (o5r.2.2.2.2.2.2.2.2.2.1 < o5r.2.2.2.2.2.2.2.2.1) = true then o5r.2.2.2.2.2.2.2.2.2.1 else o5r.2.2.2.2.2.2.2.2.1)) o5r.2.2.2.2.2.2.2.2.2.2.1 ((IntKind.i64.wrap (o5r.2.2.2.2.2.2.2.2.2.2.2 + 1)))) (impl_heightsOf.l4 k o5r.1 o5r.2.1 o5r.2.2.1 o5r.2.2.2.1 o5r.2.2.2.2.1 o5r.2.2.2.2.2.1 o5r.2.2.2.2.2.2.1 o5r.2.2.2.2.2.2.2.1 o5r.2.2.2.2.2.2.2.2.1 o5r.2.2.2.2.2.2.2.2.2.2.1 ((IntKind.i64.wrap (o5r.2.2.2.2.2.2.2.2.2.2.2 + 1))))) o5)) (some (.inr (a1, a2, a3, a6, a9)))

def impl_heightsOf.l2 : Nat → (List GFunc) → (List Int) → (List Bool) → (List GI2) → Int → Option (((List Int) × Int × Int) ⊕ ((List Int)))
  | 0, _, _, _, _, _ => none
  | k + 1, a1, a2, a3, a4, a5 => cond ((decide (a5 < ((a4.length : Int))))) ((idx a3 a5).bind fun m5 => cond ((!m5)) (impl_heightsOf.l2 k a1 a2 a3 a4 ((IntKind.i64.wrap (a5 + 1)))) ((idx a4 a5).bind fun m6 => (idx a2 a5).bind fun m7 => (impl_Takes k ((⟨a1⟩ : GProgram)) m6).bind fun t8 => (impl_heightsOf.a3 k a1 a2 ((a3.set a5.toNat false)) m6 a4 a5 ((IntKind.i64.wrap (m7 - t8)))).bind fun o3 => Sum.elim (fun o3l => some (.inl (o3l.1, o3l.2.1, o3l.2.2))) (fun o3r => (impl_next o3r.2.2.2.1 o3r.2.2.2.2.2.1).bind fun t10 => (impl_heightsOf.l4 k o3r.1 o3r.2.1 o3r.2.2.1 o3r.2.2.2.1 t10 o3r.2.2.2.2.1 o3r.2.2.2.2.2.1 o3r.2.2.2.2.2.2 o3r.2.2.2.2.2.1 ((t10.length : Int)) 0).bind fun o4 => Sum.elim (fun o4l => some (.inl (o4l.1, o4l.2.1, o4l.2.2))) (fun o4r => impl_heightsOf.l2 k o4r.1 o4r.2.1 o4r.2.2.1 o4r.2.2.2.1 o4r.2.2.2.2) o4) o3)) (some (.inr (a2)))

def impl_heightsOf (k : Nat) (p0 : GProgram) (p1 : Int) : Option ((List Int) × Int × Int) :=
  (idx p0.funcs p1).bind fun m1 => gd (0 ≤ (m1.code.length : Int) ∧ ((m1.code.length : Int)) * 8 ≤ 35184372088832 ∧ (m1.code.length : Int) ≤ 35184372088832) (gd (0 ≤ (m1.code.length : Int) ∧ ((m1.code.length : Int)) * 1 ≤ 35184372088832 ∧ (m1.code.length : Int) ≤ 35184372088832) ((impl_heightsOf.l1 k p0.funcs ((List.replicate m1.code.length 0)) ((List.replicate m1.code.length false)) m1.code ((m1.code.length : Int)) 0).bind fun o1 => (idx o1.2.1 0).bind fun m3 => (idx o1.2.2.1 0).bind fun m4 => (impl_heightsOf.l2 k o1.1 ((o1.2.1.set 0 0)) ((o1.2.2.1.set 0 true)) o1.2.2.2 0).bind fun o2 => Sum.elim (fun o2l => some (o2l.1, o2l.2.1, o2l.2.2)) (fun o2r => some (o2r, 0, 0)) o2))

theorem c_impl_heightsOf {k : Nat} {p0 : GProgram} {p1 : Int} {r : (List Int) × Int × Int} (h : impl_heightsOf k p0 p1 = some r) : Con Try.prog 111 [.agg [.d (.row .bor 3 (Rw (GFunc.cells .bor) p0.funcs))], V.int p1] [] (.tup [.d (.row .own 1 (Rw (cI .i64) r.1)), V.int r.2.1, V.int r.2.2]) [] := by
  refine con_of_sw Try.func111 rfl Try.call111 (by simp [Try.ntmps111]) (by simp [V.inNs, V.inN]) (by simp [C.inN, V.inNss, V.inNs, V.inN, inNss_dd]) (by simp [V.inNs, V.inN]) (by simp [C.inN, V.inNss, V.inNs, V.inN, inNss_dd]) rfl ?_
  rw [Try.ntmps111, Try.results111]
  unfold impl_heightsOf at h
  replace h := Yes.mk h
  simp only [entryS, entryO, Nat.reduceAdd, List.length_nil, List.length_cons]
  repeat' (first
    | with_reducible refine sw_reg ?_
    | with_reducible refine sw_ret ?_
    | with_reducible refine sw_skip ?_
    | with_reducible refine sw_block ?_
    | with_reducible refine sw_exit ?_
    | with_reducible refine seqQ_normal ?_
    | with_reducible refine blockQ_normal ?_
    | with_reducible refine blockQ_ret ?_
    | with_reducible refine blockQ_this ?_
    | with_reducible refine blockQ_other (by decide) ?_
    | with_reducible refine regW_nil ?_
    | with_reducible refine sw_draw mixed ?_
    | (with_reducible refine regD_nil ?_
       refine ⟨by kernel_rfl, ?_⟩)
    | with_reducible refine retQ_ret ?_
    | with_reducible refine retQ_normal ?_
    | (revert h; (first | ((with_reducible refine idx_elim ?_); intro m hm1 hm2 hm3 h; (try (simp only [Int.reduceToNat] at hm3)); (try (revert hm3; (with_reducible apply same_elim); (focus (with_reducible assumption)); rintro rfl)); (try (simp only [List.length_set, List.length_cons, List.length_nil, List.length_replicate, Nat.reduceAdd, Int.cast_ofNat_Int, Nat.zero_add, List.length_append] at hm2))) | (with_reducible refine sidx_elim ?_; intro m hm1 hm3 h) | (with_reducible refine gd_elim ?_; intro hg h; try (have hg2 := hg.2; have hg := hg.1; (try (simp only [Nat.reduceLeDiff] at hg2)); (try (revert hg2; (with_reducible refine toNat_elim hg ?_); intro hg2 hg4)); try (have hg3 := hg2.2; have hg2 := hg2.1; (try (simp only [Nat.reduceLeDiff] at hg3))))) | fail))
    | ((first | with_reducible refine seqQ_ret (K := (fun st1 n1 => Gh st1 n1 (MeetA _ 50000000 _ _))) ?_ | with_reducible refine seqQ_exit (K := (fun st1 n1 => Gh st1 n1 (MeetA _ 50000000 _ _))) ?_)
       obtain rfl := h.get
       have h := hK5
       (try (simp only [Sum.elim_inl, Sum.elim_inr] at h)))
    | ((first | with_reducible refine seqQ_ret (K := (fun st1 n1 => Gh st1 n1 (NextS _ 40000000 _ _ _ _))) ?_ | with_reducible refine seqQ_exit (K := (fun st1 n1 => Gh st1 n1 (NextS _ 40000000 _ _ _ _))) ?_)
       obtain rfl := h.get
       have h := hK4
       (try (simp only [Sum.elim_inl, Sum.elim_inr] at h)))
    | ((first | with_reducible refine seqQ_ret (K := (fun st1 n1 => Gh st1 n1 (MeetA _ 30000000 _ _))) ?_ | with_reducible refine seqQ_exit (K := (fun st1 n1 => Gh st1 n1 (MeetA _ 30000000 _ _))) ?_)
       obtain rfl := h.get
       have h := hK3
       (try (simp only [Sum.elim_inl, Sum.elim_inr] at h)))
    | ((first | with_reducible refine seqQ_ret (K := (fun st1 n1 => Gh st1 n1 (NextS _ 20000000 _ _ _ _))) ?_ | with_reducible refine seqQ_exit (K := (fun st1 n1 => Gh st1 n1 (NextS _ 20000000 _ _ _ _))) ?_)
       obtain rfl := h.get
       have h := hK2
       (try (simp only [Sum.elim_inl, Sum.elim_inr] at h)))
    | ((first | with_reducible refine seqQ_ret (K := (fun st1 n1 => Gh st1 n1 (NextS _ 10000000 _ _ _ _))) ?_ | with_reducible refine seqQ_exit (K := (fun st1 n1 => Gh st1 n1 (NextS _ 10000000 _ _ _ _))) ?_)
       obtain rfl := h.get
       have h := hK1
       (try (simp only [Sum.elim_inl, Sum.elim_inr] at h)))
    | (with_reducible refine here_join (a := (.seq (.region 26 _ _) _)) (b := (.seq (.region 28 _ _) _)) ?_
       skip
       revert h
       with_reducible refine bind_elimY ?_
       intro o5 h hK5
       unfold impl_heightsOf.a5 at h
       refine sw_join (ι := (List GFunc) × (List Int) × (List Bool) × GI2 × (List Int) × (List GI2) × Int × Int × Int × Int × Int × Int) 50000000 (fun x : (List GFunc) × (List Int) × (List Bool) × GI2 × (List Int) × (List GI2) × Int × Int × Int × Int × Int × Int => [(.s 2, some (.v (.mp 0 1 0 0))), (.s 7, some (.v (.d (.row .bor 2 (Rw GI2.cells x.2.2.2.2.2.1))))), (.s 8, some (.v (.sl 896 1 0 x.2.1.length))), (.s 9, some (.v (.sl 1152 1 0 x.2.2.1.length))), (.s 11, some (.v (V.int x.2.2.2.2.2.2.1))), (.s 12, some (.v (.mp 20001088 2 0 0))), (.s 13, some (.v (V.int x.2.2.2.2.2.2.2.1))), (.s 14, some (.v (V.int x.2.2.2.2.2.2.2.2.1))), (.s 16, some (.v (V.int x.2.2.2.2.2.2.2.2.2.1))), (.s 82, some (.v (.sl 30000256 1 0 x.2.2.2.2.1.length))), (.s 83, some (.v (V.int x.2.2.2.2.2.2.2.2.2.2.1))), (.s 84, some (.v (V.int x.2.2.2.2.2.2.2.2.2.2.2))), (.r 0, some (.o 1 [[.d (.row .bor 3 (Rw (GFunc.cells .bor) x.1))]])), (.r 896, some (.o 1 (dd (Rw (cI .i64) x.2.1)))), (.r 1152, some (.o 1 (dd (Rw cB x.2.2.1)))), (.r 20001088, some (.o 2 [[V.int x.2.2.2.1.a, V.int x.2.2.2.1.b]])), (.r 30000256, some (.o 1 (dd (Rw (cI .i64) x.2.2.2.2.1))))]) (fun x => Yes (some (.inr x)) o5) ?_ ?_
       rotate_left
       rintro ⟨b1, b2, b3, b4, b5, b6, b7, b8, b9, b10, b11, b12⟩ h
       obtain rfl := h.get
       have h := hK5
       (try (simp only [Sum.elim_inl, Sum.elim_inr] at h))
       refine sw_gh ?_
       refine gh_sw ?_
       skip)
    | (with_reducible refine here_meet (N0 := 50000000) ?_
       skip
       refine meet_to (_, _, _, _, _, _, _, _, _, _, _, _) (by decide) ?_ h ?_
       · exact (by simp [slNL, C.inN, V.inN, V.inNs, V.inNss, inNss_dd, inNs_map_d])
       · simp only [SubL, putSt, lk, Res.s.injEq, Res.r.injEq, reduceCtorEq, Nat.reduceEqDiff, if_true, if_false, List.length_set, List.length_replicate]; repeat' (first | apply And.intro | rfl | trivial | (simp only [*]; done)))
    | (with_reducible refine here_loop (c := (.seq (.region 22 _ _) _)) ?_
       skip
       revert h
       with_reducible refine bind_elimY ?_
       intro o4 h hK4
       refine sw_loop (ι := Nat × (List GFunc) × (List Int) × (List Bool) × GI2 × (List Int) × (List GI2) × Int × Int × Int × Int × Int) 40000000 (by decide) (fun x : Nat × (List GFunc) × (List Int) × (List Bool) × GI2 × (List Int) × (List GI2) × Int × Int × Int × Int × Int => [(.s 2, some (.v (.mp 0 1 0 0))), (.s 7, some (.v (.d (.row .bor 2 (Rw GI2.cells x.2.2.2.2.2.2.1))))), (.s 8, some (.v (.sl 896 1 0 x.2.2.1.length))), (.s 9, some (.v (.sl 1152 1 0 x.2.2.2.1.length))), (.s 11, some (.v (V.int x.2.2.2.2.2.2.2.1))), (.s 12, some (.v (.mp 20001088 2 0 0))), (.s 13, some (.v (V.int x.2.2.2.2.2.2.2.2.1))), (.s 14, some (.v (V.int x.2.2.2.2.2.2.2.2.2.1))), (.s 82, some (.v (.sl 30000256 1 0 x.2.2.2.2.2.1.length))), (.s 83, some (.v (V.int x.2.2.2.2.2.2.2.2.2.2.1))), (.s 84, some (.v (V.int x.2.2.2.2.2.2.2.2.2.2.2))), (.r 0, some (.o 1 [[.d (.row .bor 3 (Rw (GFunc.cells .bor) x.2.1))]])), (.r 896, some (.o 1 (dd (Rw (cI .i64) x.2.2.1)))), (.r 1152, some (.o 1 (dd (Rw cB x.2.2.2.1)))), (.r 20001088, some (.o 2 [[V.int x.2.2.2.2.1.a, V.int x.2.2.2.2.1.b]])), (.r 30000256, some (.o 1 (dd (Rw (cI .i64) x.2.2.2.2.2.1))))]) (fun x => x.1) (fun x => Yes (impl_heightsOf.l4 x.1 x.2.1 x.2.2.1 x.2.2.2.1 x.2.2.2.2.1 x.2.2.2.2.2.1 x.2.2.2.2.2.2.1 x.2.2.2.2.2.2.2.1 x.2.2.2.2.2.2.2.2.1 x.2.2.2.2.2.2.2.2.2.1 x.2.2.2.2.2.2.2.2.2.2.1 x.2.2.2.2.2.2.2.2.2.2.2) o4) (_, _, _, _, _, _, _, _, _, _, _, _) ?_ h ?_ ?_
       · exact (by simp [slNL, C.inN, V.inN, V.inNs, V.inNss, inNss_dd, inNs_map_d])
       · simp only [SubL, putSt, lk, Res.s.injEq, Res.r.injEq, reduceCtorEq, Nat.reduceEqDiff, if_true, if_false, List.length_set, List.length_replicate]; repeat' (first | apply And.intro | rfl | trivial | (simp only [*]; done))
       rintro ⟨_ | k, a1, a2, a3, a4, a5, a6, a7, a8, a9, a10, a11⟩ h
       · simp only [impl_heightsOf.l4] at h; exact h.none
       simp only [impl_heightsOf.l4] at h
)
    | (with_reducible refine here_next (N0 := 40000000) ?_
       skip
       refine nexts_to (_, _, _, _, _, _, _, _, _, _, _, _) (by decide) ?_ (Nat.lt_succ_self _) h ?_
       · exact (by simp [slNL, C.inN, V.inN, V.inNs, V.inNss, inNss_dd, inNs_map_d])
       · simp only [SubL, putSt, lk, Res.s.injEq, Res.r.injEq, reduceCtorEq, Nat.reduceEqDiff, if_true, if_false, List.length_set, List.length_replicate]; repeat' (first | apply And.intro | rfl | trivial | (simp only [*]; done)))
    | (with_reducible refine here_join (a := (.seq (.region 18 _ _) _)) (b := (.seq (.region 20 _ _) _)) ?_
       skip
       revert h
       with_reducible refine bind_elimY ?_
       intro o3 h hK3
       unfold impl_heightsOf.a3 at h
       refine sw_join (ι := (List GFunc) × (List Int) × (List Bool) × GI2 × (List GI2) × Int × Int) 30000000 (fun x : (List GFunc) × (List Int) × (List Bool) × GI2 × (List GI2) × Int × Int => [(.s 2, some (.v (.mp 0 1 0 0))), (.s 7, some (.v (.d (.row .bor 2 (Rw GI2.cells x.2.2.2.2.1))))), (.s 8, some (.v (.sl 896 1 0 x.2.1.length))), (.s 9, some (.v (.sl 1152 1 0 x.2.2.1.length))), (.s 11, some (.v (V.int x.2.2.2.2.2.1))), (.s 12, some (.v (.mp 20001088 2 0 0))), (.s 13, some (.v (V.int x.2.2.2.2.2.2))), (.r 0, some (.o 1 [[.d (.row .bor 3 (Rw (GFunc.cells .bor) x.1))]])), (.r 896, some (.o 1 (dd (Rw (cI .i64) x.2.1)))), (.r 1152, some (.o 1 (dd (Rw cB x.2.2.1)))), (.r 20001088, some (.o 2 [[V.int x.2.2.2.1.a, V.int x.2.2.2.1.b]]))]) (fun x => Yes (some (.inr x)) o3) ?_ ?_
       rotate_left
       rintro ⟨b1, b2, b3, b4, b5, b6, b7⟩ h
       obtain rfl := h.get
       have h := hK3
       (try (simp only [Sum.elim_inl, Sum.elim_inr] at h))
       refine sw_gh ?_
       refine gh_sw ?_
       skip)
    | (with_reducible refine here_meet (N0 := 30000000) ?_
       skip
       refine meet_to (_, _, _, _, _, _, _) (by decide) ?_ h ?_
       · exact (by simp [slNL, C.inN, V.inN, V.inNs, V.inNss, inNss_dd, inNs_map_d])
       · simp only [SubL, putSt, lk, Res.s.injEq, Res.r.injEq, reduceCtorEq, Nat.reduceEqDiff, if_true, if_false, List.length_set, List.length_replicate]; repeat' (first | apply And.intro | rfl | trivial | (simp only [*]; done)))
    | (with_reducible refine here_loop (c := (.seq (.seq (.region 12 _ _) _) _)) ?_
       skip
       revert h
       with_reducible refine bind_elimY ?_
       intro o2 h hK2
       refine sw_loop (ι := Nat × (List GFunc) × (List Int) × (List Bool) × (List GI2) × Int) 20000000 (by decide) (fun x : Nat × (List GFunc) × (List Int) × (List Bool) × (List GI2) × Int => [(.s 2, some (.v (.mp 0 1 0 0))), (.s 7, some (.v (.d (.row .bor 2 (Rw GI2.cells x.2.2.2.2.1))))), (.s 8, some (.v (.sl 896 1 0 x.2.2.1.length))), (.s 9, some (.v (.sl 1152 1 0 x.2.2.2.1.length))), (.s 11, some (.v (V.int x.2.2.2.2.2))), (.r 0, some (.o 1 [[.d (.row .bor 3 (Rw (GFunc.cells .bor) x.2.1))]])), (.r 896, some (.o 1 (dd (Rw (cI .i64) x.2.2.1)))), (.r 1152, some (.o 1 (dd (Rw cB x.2.2.2.1))))]) (fun x => x.1) (fun x => Yes (impl_heightsOf.l2 x.1 x.2.1 x.2.2.1 x.2.2.2.1 x.2.2.2.2.1 x.2.2.2.2.2) o2) (_, _, _, _, _, _) ?_ h ?_ ?_
       · exact (by simp [slNL, C.inN, V.inN, V.inNs, V.inNss, inNss_dd, inNs_map_d])
       · simp only [SubL, putSt, lk, Res.s.injEq, Res.r.injEq, reduceCtorEq, Nat.reduceEqDiff, if_true, if_false, List.length_set, List.length_replicate]; repeat' (first | apply And.intro | rfl | trivial | (simp only [*]; done))
       rintro ⟨_ | k, a1, a2, a3, a4, a5⟩ h
       · simp only [impl_heightsOf.l2] at h; exact h.none
       simp only [impl_heightsOf.l2] at h
)
    | (with_reducible refine here_next (N0 := 20000000) ?_
       skip
       refine nexts_to (_, _, _, _, _, _) (by decide) ?_ (Nat.lt_succ_self _) h ?_
       · exact (by simp [slNL, C.inN, V.inN, V.inNs, V.inNss, inNss_dd, inNs_map_d])
       · simp only [SubL, putSt, lk, Res.s.injEq, Res.r.injEq, reduceCtorEq, Nat.reduceEqDiff, if_true, if_false, List.length_set, List.length_replicate]; repeat' (first | apply And.intro | rfl | trivial | (simp only [*]; done)))
    | (with_reducible refine here_loop (c := (.seq (.region 5 _ _) _)) ?_
       skip
       revert h
       with_reducible refine bind_elimY ?_
       intro o1 h hK1
       refine sw_loop (ι := Nat × (List GFunc) × (List Int) × (List Bool) × (List GI2) × Int × Int) 10000000 (by decide) (fun x : Nat × (List GFunc) × (List Int) × (List Bool) × (List GI2) × Int × Int => [(.s 2, some (.v (.mp 0 1 0 0))), (.s 7, some (.v (.d (.row .bor 2 (Rw GI2.cells x.2.2.2.2.1))))), (.s 8, some (.v (.sl 896 1 0 x.2.2.1.length))), (.s 9, some (.v (.sl 1152 1 0 x.2.2.2.1.length))), (.s 30, some (.v (V.int x.2.2.2.2.2.1))), (.s 31, some (.v (V.int x.2.2.2.2.2.2))), (.r 0, some (.o 1 [[.d (.row .bor 3 (Rw (GFunc.cells .bor) x.2.1))]])), (.r 896, some (.o 1 (dd (Rw (cI .i64) x.2.2.1)))), (.r 1152, some (.o 1 (dd (Rw cB x.2.2.2.1))))]) (fun x => x.1) (fun x => Yes (impl_heightsOf.l1 x.1 x.2.1 x.2.2.1 x.2.2.2.1 x.2.2.2.2.1 x.2.2.2.2.2.1 x.2.2.2.2.2.2) o1) (_, _, _, _, _, _, _) ?_ h ?_ ?_
       · exact (by simp [slNL, C.inN, V.inN, V.inNs, V.inNss, inNss_dd, inNs_map_d])
       · simp only [SubL, putSt, lk, Res.s.injEq, Res.r.injEq, reduceCtorEq, Nat.reduceEqDiff, if_true, if_false, List.length_set, List.length_replicate]; repeat' (first | apply And.intro | rfl | trivial | (simp only [*]; done))
       rintro ⟨_ | k, a1, a2, a3, a4, a5, a6⟩ h
       · simp only [impl_heightsOf.l1] at h; exact h.none
       simp only [impl_heightsOf.l1] at h
)
    | (with_reducible refine here_next (N0 := 10000000) ?_
       skip
       refine nexts_to (_, _, _, _, _, _, _) (by decide) ?_ (Nat.lt_succ_self _) h ?_
       · exact (by simp [slNL, C.inN, V.inN, V.inNs, V.inNss, inNss_dd, inNs_map_d])
       · simp only [SubL, putSt, lk, Res.s.injEq, Res.r.injEq, reduceCtorEq, Nat.reduceEqDiff, if_true, if_false, List.length_set, List.length_replicate]; repeat' (first | apply And.intro | rfl | trivial | (simp only [*]; done)))
    | with_reducible refine sw_seq ?_
    | with_reducible refine seqQ_ret ?_
    | with_reducible refine seqQ_exit ?_
    | (with_reducible refine gh_nilRow 4 .own 1 ?_ ?_
       · simp only [putSt, lk, Res.s.injEq, Res.r.injEq, reduceCtorEq, Nat.reduceEqDiff, if_true, if_false]; done
       skip)
    | ((with_reducible refine wp_ite ?_ ?_)
       all_goals (intro hc; (try (simp only [Bool.not_eq_true, Bool.not_eq_false] at hc)); (try (revert h; first | (with_reducible refine condt_elim hc ?_; intro h) | (with_reducible refine condf_elim hc ?_; intro h) | fail)); simp only [hc]))
    | (with_reducible apply regW_skip
       · simp only [dstOk, Nat.reduceLT]
       · rfl
       · simp only [putSt, lk, Res.s.injEq, Res.r.injEq, reduceCtorEq, Nat.reduceEqDiff, if_true, if_false]; done)
    | (with_reducible apply regW_yesN
       · simp only [dstOk, Nat.reduceLT]
       · rfl
       · simp only [putSt, lk, Res.s.injEq, Res.r.injEq, reduceCtorEq, Nat.reduceEqDiff, if_true, if_false]; done)
    | (with_reducible apply regW_no
       · simp only [dstOk, Nat.reduceLT]
       · rfl
       · simp only [putSt, lk, Res.s.injEq, Res.r.injEq, reduceCtorEq, Nat.reduceEqDiff, if_true, if_false, Bool.not_true, Bool.not_false]; done)
    | (with_reducible apply regW_guardN
       · simp only [dstOk, Nat.reduceLT]
       · rfl
       · simp only [putSt, lk, Res.s.injEq, Res.r.injEq, reduceCtorEq, Nat.reduceEqDiff, if_true, if_false]; rfl
       all_goals (intro hc; (try (simp only [Bool.not_true, Bool.not_false] at hc)); (try (revert h; first | (with_reducible refine condt_elim hc ?_; intro h) | (with_reducible refine condf_elim hc ?_; intro h) | fail))))
    | ((with_reducible apply sw_cond
        · simp only [putSt, lk, Res.s.injEq, Res.r.injEq, reduceCtorEq, Nat.reduceEqDiff, if_true, if_false]; rfl
        all_goals (intro hc; try (cases hc; done)))
       all_goals (try (revert h; first | (with_reducible refine condt_elim hc ?_; intro h) | (with_reducible refine condf_elim hc ?_; intro h) | fail)))
    | ((first
        | ((with_reducible refine gh_ret ?_)
           revert h
           with_reducible refine some_elim ?_
           rintro rfl)
        | (with_reducible refine here_call ?_
           revert h
           with_reducible refine bind_elim ?_
           intro t ht h
           (first
             | (refine call_dataE (c_impl_next ht) ?_ rfl ?_
                · first | rfl | (simp; done))
             | (refine call_dataE (c_impl_Takes ht) ?_ rfl ?_
                · first | rfl | (simp; done))
             | (refine call_dataE (c_impl_Puts ht) ?_ rfl ?_
                · first | rfl | (simp; done))))
        | (with_reducible apply regD_opK
           · simp only [dstOk, Nat.reduceLT]
           · simp only [Nat.reduceAdd]; rfl
           intro k hk)
        | (with_reducible apply regW_opK
           · simp only [dstOk, Nat.reduceLT]
           · simp only [Nat.reduceAdd]; rfl
           intro k hk)
        | skip)
       simp only [RetW, bn, opC, opP, fetchN, fetchP, fetchAll, fetchO, Prog.bind, Prog.wp, Prog.wp_bind, lk, nameP, nameAll, Value.oneCell', putSt, stepP, putP, Res.s.injEq, Res.r.injEq, reduceCtorEq, V.lin, V.linL, D.lin, isNil, binP, unP, BinOp.isShift, Prog.ofO, true_and, and_true, Nat.reduceAdd, Nat.reduceMul, Nat.reduceSub, Nat.reduceLT, Nat.reduceLeDiff, Nat.reduceEqDiff, if_true, if_false, ite_true, ite_false, Bool.false_eq_true, Bool.not_true, Bool.not_false, Bool.or_false, Bool.or_true, fieldAddrP, fieldP, indexAddrP, loadP, storeP, boxP, allocP, cellsP, asVal, setSeg, outP, outT, cntT, TyK.field, TyK.agg, zeroRow, V.ren, V.renL, forall_eq_or_imp, implies_true, false_implies, forall_const, and_self, true_or, minmaxP, lenP, lenOf, lenStr, V.asInt, decide_true, decide_false, sliceP, boundP, makeSliceP, convertP, appendP, rowsOfP, ontoP, sizeFits, V.rowSize, TyK.src, resV, resV.go, resV.gol, retP, retOne, retAll, resTo, objsAre, Option.map_eq_map, Function.const_apply, Int.reduceNeg, Int.reduceToNat, ty2, ty3, ty4, ty26, ty28, ty30, ty63, ty65, ty107, ty117, GFunc.cells, GI2.cells, GProgram.cells, cI, cB, cS, cL, GI2_e, GFunc_e, GProgram_e, LcIi64_e, LGI2_e, nilEqP, ne_eq, not_false_eq_true, not_true_eq_false, *]
       try (refine hk.use _ _ _ _ ?_; clear hk k))
    | fail)
  all_goals (try rfl)
  all_goals (try (simp; done))
  all_goals (try (simp_all; done))

end Go.Proofs.Ytdlaplgofgklnaa
namespace Go.Proofs.Ytdlaplgofgklnaa
open Go.Proofs Go.Proofs.Ytdlaplgofgklnaa.L
set_option maxHeartbeats 1000000
set_option linter.unusedSimpArgs false
set_option linter.unusedVariables false
set_option maxRecDepth 100000

def impl_verify.a1 (k : Nat) (a1 : (List GFunc)) (a2 : GI3) : Option ((GI3 × (List (List Int))) ⊕ ((List GFunc) × GI3)) :=
  cond ((decide (((a1.length : Int)) < 1))) (some (.inl ((⟨0, 0, 1⟩ : GI3), []))) (cond ((decide (((a1.length : Int)) > 6))) (some (.inl ((⟨0, 0, 1⟩ : GI3), []))) (some (.inr (a1, a2))))

def impl_verify.a4 (k : Nat) (a1 : (List GFunc)) (a2 : GI3) (a3 : (List (List Int))) (a4 : Int) (a5 : Int) (a6 : (List GI2)) (a7 : Int) (a8 : (List GFunc)) (a9 : Int) (a10 : Int) : Option ((GI3 × (List (List Int))) ⊕ ((List GFunc) × GI3 × (List (List Int)) × Int × Int × (List GI2) × Int × (List GFunc) × Int × Int)) :=
  (impl_in a4 0 4).bind fun t2 => cond ((!t2)) (some (.inl ((⟨a7, 0, 1⟩ : GI3), []))) ((impl_in a5 a4 8).bind fun t3 => cond ((!t3)) (some (.inl ((⟨a7, 0, 1⟩ : GI3), []))) ((impl_in ((a6.length : Int)) 1 60).bind fun t4 => cond ((!t4)) (some (.inl ((⟨a7, 0, 1⟩ : GI3), []))) (some (.inr (a1, a2, a3, a4, a5, a6, a7, a8, a9, a10)))))

def impl_verify.l5 : Nat → (List GFunc) → GI3 → (List (List Int)) → Int → (List GFunc) → Int → Int → (List GI2) → Int → Int → Option ((GI3 × (List (List Int))) ⊕ ((List GFunc) × GI3 × (List (List Int)) × Int × (List GFunc) × Int × Int))
  | 0, _, _, _, _, _, _, _, _, _, _ => none
  | k + 1, a1, a2, a3, a4, a5, a6, a7, a8, a9, a10 => cond ((decide (a10 < a9))) ((idx a8 a10).bind fun m5 => (impl_InsRight k ((⟨a1⟩ : GProgram)) a4 m5).bind fun t6 => cond ((!t6)) (some (.inl ((⟨a4, a10, 1⟩ : GI3), []))) (impl_verify.l5 k a1 a2 a3 a4 a5 a6 a7 a8 a9 ((IntKind.i64.wrap (a10 + 1))))) (some (.inr (a1, a2, a3, a4, a5, a6, a7)))

def impl_verify.a3 (k : Nat) (a1 : (List GFunc)) (a2 : GI3) (a3 : (List (List Int))) (a4 : (List GFunc)) (a5 : Int) (a6 : Int) : Option ((GI3 × (List (List Int))) ⊕ ((List GFunc) × GI3 × (List (List Int)) × (List GFunc) × Int × Int)) :=
  (idx a4 a6).bind fun m1 => (impl_verify.a4 k a1 a2 a3 m1.args m1.locals m1.code a6 a4 a5 a6).bind fun o4 => Sum.elim (fun o4l => some (.inl (o4l.1, o4l.2))) (fun o4r => (impl_verify.l5 k o4r.1 o4r.2.1 o4r.2.2.1 o4r.2.2.2.2.2.2.1 o4r.2.2.2.2.2.2.2.1 o4r.2.2.2.2.2.2.2.2.1 o4r.2.2.2.2.2.2.2.2.2 o4r.2.2.2.2.2.1 ((o4r.2.2.2.2.2.1.length : Int)) 0).bind fun o5 => Sum.elim (fun o5l => some (.inl (o5l.1, o5l.2))) (fun o5r => (impl_heightsOf k ((⟨o5r.1⟩ : GProgram)) o5r.2.2.2.1).bind fun t7 => cond ((t7.2.2 != 0)) (some (.inl ((⟨o5r.2.2.2.1, t7.2.1, t7.2.2⟩ : GI3), []))) (gd ((o5r.2.2.1.length + 1) * 24 ≤ 35184372088832 ∧ o5r.2.2.1.length + 1 ≤ 35184372088832) (some (.inr (o5r.1, o5r.2.1, (o5r.2.2.1 ++ [t7.1]), o5r.2.2.2.2.1, o5r.2.2.2.2.2.1, o5r.2.2.2.2.2.2))))) o5) o4

def impl_verify.l2 : Nat → (List GFunc) → GI3 → (List (List Int)) → (List GFunc) → Int → Int → Option ((GI3 × (List (List Int))) ⊕ (GI3 × (List (List Int))))
  | 0, _, _, _, _, _, _ => none
  | k + 1, a1, a2, a3, a4, a5, a6 => cond ((decide (a6 < a5))) ((impl_verify.a3 k a1 a2 a3 a4 a5 a6).bind fun o3 => Sum.elim (fun o3l => some (.inl (o3l.1, o3l.2))) (fun o3r => impl_verify.l2 k o3r.1 o3r.2.1 o3r.2.2.1 o3r.2.2.2.1 o3r.2.2.2.2.1 ((IntKind.i64.wrap (o3r.2.2.2.2.2 + 1)))) o3) (some (.inr (a2, a3)))

def impl_verify (k : Nat) (p0 : GProgram) : Option (GI3 × (List (List Int))) :=
  (impl_verify.a1 k p0.funcs ((⟨0, 0, 0⟩ : GI3))).bind fun o1 => Sum.elim (fun o1l => some (o1l.1, o1l.2)) (fun o1r => (impl_verify.l2 k o1r.1 o1r.2 [] o1r.1 ((o1r.1.length : Int)) 0).bind fun o2 => Sum.elim (fun o2l => some (o2l.1, o2l.2)) (fun o2r => some ((⟨0, 0, 0⟩ : GI3), o2r.2)) o2) o1

theorem c_impl_verify {k : Nat} {p0 : GProgram} {r : GI3 × (List (List Int))} (h : impl_verify k p0 = some r) : Con Try.prog 93 [.agg [.d (.row .bor 3 (Rw (GFunc.cells .bor) p0.funcs))]] [] (.tup [.agg [V.int r.1.a, V.int r.1.b, V.int r.1.c], .d (.row .own 1 (Rw (cL .own 1 (cI .i64)) r.2))]) [] := by
  refine con_of_sw Try.func93 rfl Try.call93 (by simp [Try.ntmps93]) (by simp [V.inNs, V.inN]) (by simp [C.inN, V.inNss, V.inNs, V.inN, inNss_dd]) (by simp [V.inNs, V.inN]) (by simp [C.inN, V.inNss, V.inNs, V.inN, inNss_dd]) rfl ?_
  rw [Try.ntmps93, Try.results93]
  unfold impl_verify at h
  replace h := Yes.mk h
  simp only [entryS, entryO, Nat.reduceAdd, List.length_nil, List.length_cons]
  repeat' (first
    | with_reducible refine sw_reg ?_
    | with_reducible refine sw_ret ?_
    | with_reducible refine sw_skip ?_
    | with_reducible refine sw_block ?_
    | with_reducible refine sw_exit ?_
    | with_reducible refine seqQ_normal ?_
    | with_reducible refine blockQ_normal ?_
    | with_reducible refine blockQ_ret ?_
    | with_reducible refine blockQ_this ?_
    | with_reducible refine blockQ_other (by decide) ?_
    | with_reducible refine regW_nil ?_
    | with_reducible refine sw_draw mixed ?_
    | (with_reducible refine regD_nil ?_
       refine ⟨by kernel_rfl, ?_⟩)
    | with_reducible refine retQ_ret ?_
    | with_reducible refine retQ_normal ?_
    | (revert h; (first | ((with_reducible refine idx_elim ?_); intro m hm1 hm2 hm3 h; (try (simp only [Int.reduceToNat] at hm3)); (try (revert hm3; (with_reducible apply same_elim); (focus (with_reducible assumption)); rintro rfl)); (try (simp only [List.length_set, List.length_cons, List.length_nil, List.length_replicate, Nat.reduceAdd, Int.cast_ofNat_Int, Nat.zero_add, List.length_append] at hm2))) | (with_reducible refine sidx_elim ?_; intro m hm1 hm3 h) | (with_reducible refine gd_elim ?_; intro hg h; try (have hg2 := hg.2; have hg := hg.1; (try (simp only [Nat.reduceLeDiff] at hg2)); (try (revert hg2; (with_reducible refine toNat_elim hg ?_); intro hg2 hg4)); try (have hg3 := hg2.2; have hg2 := hg2.1; (try (simp only [Nat.reduceLeDiff] at hg3))))) | fail))
    | ((first | with_reducible refine seqQ_ret (K := (fun st1 n1 => Gh st1 n1 (NextS _ 50000000 _ _ _ _))) ?_ | with_reducible refine seqQ_exit (K := (fun st1 n1 => Gh st1 n1 (NextS _ 50000000 _ _ _ _))) ?_)
       obtain rfl := h.get
       have h := hK5
       (try (simp only [Sum.elim_inl, Sum.elim_inr] at h)))
    | ((first | with_reducible refine seqQ_ret (K := (fun st1 n1 => Gh st1 n1 (MeetA _ 40000000 _ _))) ?_ | with_reducible refine seqQ_exit (K := (fun st1 n1 => Gh st1 n1 (MeetA _ 40000000 _ _))) ?_)
       obtain rfl := h.get
       have h := hK4
       (try (simp only [Sum.elim_inl, Sum.elim_inr] at h)))
    | ((first | with_reducible refine seqQ_ret (K := (fun st1 n1 => Gh st1 n1 (MeetA _ 30000000 _ _))) ?_ | with_reducible refine seqQ_exit (K := (fun st1 n1 => Gh st1 n1 (MeetA _ 30000000 _ _))) ?_)
       obtain rfl := h.get
       have h := hK3
       (try (simp only [Sum.elim_inl, Sum.elim_inr] at h)))
    | ((first | with_reducible refine seqQ_ret (K := (fun st1 n1 => Gh st1 n1 (NextS _ 20000000 _ _ _ _))) ?_ | with_reducible refine seqQ_exit (K := (fun st1 n1 => Gh st1 n1 (NextS _ 20000000 _ _ _ _))) ?_)
       obtain rfl := h.get
       have h := hK2
       (try (simp only [Sum.elim_inl, Sum.elim_inr] at h)))
    | ((first | with_reducible refine seqQ_ret (K := (fun st1 n1 => Gh st1 n1 (MeetA _ 10000000 _ _))) ?_ | with_reducible refine seqQ_exit (K := (fun st1 n1 => Gh st1 n1 (MeetA _ 10000000 _ _))) ?_)
       obtain rfl := h.get
       have h := hK1
       (try (simp only [Sum.elim_inl, Sum.elim_inr] at h)))
    | (with_reducible refine here_loop (c := (.seq (.region 10 _ _) _)) ?_
       skip
       revert h
       with_reducible refine bind_elimY ?_
       intro o5 h hK5
       refine sw_gh ?_
       (try (apply gh_resRow 20000000; (focus (simp only [putSt, lk, Res.s.injEq, Res.r.injEq, reduceCtorEq, Nat.reduceEqDiff, if_true, if_false]; try rfl)); (focus (first | (simp only [Rw_length, List.length_set]; omega) | (simp [Rw_length]; omega))); simp only [List.set_cons_zero, List.set_cons_succ, List.length_nil, List.length_cons, Nat.reduceAdd, Nat.reduceLeDiff, List.take_succ_cons, List.take_of_length_le, List.length_set, List.length_replicate, List.take_length, List.take_nil, List.take_zero, List.drop_nil, List.map_nil, List.map_cons, resSlotP, nameSlotP, Prog.wp, Prog.wp_bind, Prog.bind, Prog.ofO, putSt, lk, Res.s.injEq, Res.r.injEq, reduceCtorEq, Nat.reduceEqDiff, if_true, if_false, resV, resV.go, resV.gol, resGo_dd, dd_length, dd_take, dd_drop, dd_get, List.drop_zero, Rw_length, Rw_take, Rw_drop, Nat.zero_add, Nat.le_refl, true_and, and_true, and_self, nameAll, nameP, outP, outT, cntT, V.lin, D.lin, *, not_false_eq_true, List.not_mem_nil, List.mem_cons, reduceCtorEq, or_self, Nat.reduceEqDiff, List.map_cons, List.map_nil, GI2_Dset, GFunc_Dset, GProgram_Dset, GI3_Dset, LcIi64_Dset, LGI2_Dset]))
       refine gh_sw ?_
       refine sw_loop (ι := Nat × (List GFunc) × GI3 × (List (List Int)) × Int × (List GFunc) × Int × Int × (List GI2) × Int × Int) 50000000 (by decide) (fun x : Nat × (List GFunc) × GI3 × (List (List Int)) × Int × (List GFunc) × Int × Int × (List GI2) × Int × Int => [(.s 1, some (.v (.mp 0 1 0 0))), (.s 2, some (.v (.mp 64 3 0 0))), (.s 4, some (.v (.sl 20000000 1 0 x.2.2.2.1.length))), (.s 5, some (.v (V.int x.2.2.2.2.1))), (.s 24, some (.v (.d (.row .bor 3 (Rw (GFunc.cells .bor) x.2.2.2.2.2.1))))), (.s 25, some (.v (V.int x.2.2.2.2.2.2.1))), (.s 26, some (.v (V.int x.2.2.2.2.2.2.2.1))), (.s 53, some (.v (.d (.row .bor 2 (Rw GI2.cells x.2.2.2.2.2.2.2.2.1))))), (.s 54, some (.v (V.int x.2.2.2.2.2.2.2.2.2.1))), (.s 55, some (.v (V.int x.2.2.2.2.2.2.2.2.2.2))), (.r 0, some (.o 1 [[.d (.row .bor 3 (Rw (GFunc.cells .bor) x.2.1))]])), (.r 64, some (.o 3 [[V.int x.2.2.1.a, V.int x.2.2.1.b, V.int x.2.2.1.c]])), (.r 20000000, some (.o 1 (dd (Rw (cL .own 1 (cI .i64)) x.2.2.2.1))))]) (fun x => x.1) (fun x => Yes (impl_verify.l5 x.1 x.2.1 x.2.2.1 x.2.2.2.1 x.2.2.2.2.1 x.2.2.2.2.2.1 x.2.2.2.2.2.2.1 x.2.2.2.2.2.2.2.1 x.2.2.2.2.2.2.2.2.1 x.2.2.2.2.2.2.2.2.2.1 x.2.2.2.2.2.2.2.2.2.2) o5) (_, _, _, _, _, _, _, _, _, _, _) ?_ h ?_ ?_
       · exact (by simp [slNL, C.inN, V.inN, V.inNs, V.inNss, inNss_dd, inNs_map_d])
       · simp only [SubL, putSt, lk, Res.s.injEq, Res.r.injEq, reduceCtorEq, Nat.reduceEqDiff, if_true, if_false, List.length_set, List.length_replicate]; repeat' (first | apply And.intro | rfl | trivial | (simp only [*]; done))
       rintro ⟨_ | k, a1, a2, a3, a4, a5, a6, a7, a8, a9, a10⟩ h
       · simp only [impl_verify.l5] at h; exact h.none
       simp only [impl_verify.l5] at h
)
    | (with_reducible refine here_next (N0 := 50000000) ?_
       skip
       (try (apply gh_resRow 20000000; (focus (simp only [putSt, lk, Res.s.injEq, Res.r.injEq, reduceCtorEq, Nat.reduceEqDiff, if_true, if_false]; try rfl)); (focus (first | (simp only [Rw_length, List.length_set]; omega) | (simp [Rw_length]; omega))); simp only [List.set_cons_zero, List.set_cons_succ, List.length_nil, List.length_cons, Nat.reduceAdd, Nat.reduceLeDiff, List.take_succ_cons, List.take_of_length_le, List.length_set, List.length_replicate, List.take_length, List.take_nil, List.take_zero, List.drop_nil, List.map_nil, List.map_cons, resSlotP, nameSlotP, Prog.wp, Prog.wp_bind, Prog.bind, Prog.ofO, putSt, lk, Res.s.injEq, Res.r.injEq, reduceCtorEq, Nat.reduceEqDiff, if_true, if_false, resV, resV.go, resV.gol, resGo_dd, dd_length, dd_take, dd_drop, dd_get, List.drop_zero, Rw_length, Rw_take, Rw_drop, Nat.zero_add, Nat.le_refl, true_and, and_true, and_self, nameAll, nameP, outP, outT, cntT, V.lin, D.lin, *, not_false_eq_true, List.not_mem_nil, List.mem_cons, reduceCtorEq, or_self, Nat.reduceEqDiff, List.map_cons, List.map_nil, GI2_Dset, GFunc_Dset, GProgram_Dset, GI3_Dset, LcIi64_Dset, LGI2_Dset]))
       refine nexts_to (_, _, _, _, _, _, _, _, _, _, _) (by decide) ?_ (Nat.lt_succ_self _) h ?_
       · exact (by simp [slNL, C.inN, V.inN, V.inNs, V.inNss, inNss_dd, inNs_map_d])
       · simp only [SubL, putSt, lk, Res.s.injEq, Res.r.injEq, reduceCtorEq, Nat.reduceEqDiff, if_true, if_false, List.length_set, List.length_replicate]; repeat' (first | apply And.intro | rfl | trivial | (simp only [*]; done)))
    | (with_reducible refine here_join (a := (.seq (.region 7 _ _) _)) (b := (.seq (.seq (.region 9 _ _) _) _)) ?_
       skip
       revert h
       with_reducible refine bind_elimY ?_
       intro o4 h hK4
       unfold impl_verify.a4 at h
       refine sw_join (ι := (List GFunc) × GI3 × (List (List Int)) × Int × Int × (List GI2) × Int × (List GFunc) × Int × Int) 40000000 (fun x : (List GFunc) × GI3 × (List (List Int)) × Int × Int × (List GI2) × Int × (List GFunc) × Int × Int => [(.s 1, some (.v (.mp 0 1 0 0))), (.s 2, some (.v (.mp 64 3 0 0))), (.s 4, some (.v (.sl 20000000 1 0 x.2.2.1.length))), (.s 5, some (.v (V.int x.2.2.2.2.2.2.1))), (.s 6, some (.v (.mp 20000320 3 0 0))), (.s 24, some (.v (.d (.row .bor 3 (Rw (GFunc.cells .bor) x.2.2.2.2.2.2.2.1))))), (.s 25, some (.v (V.int x.2.2.2.2.2.2.2.2.1))), (.s 26, some (.v (V.int x.2.2.2.2.2.2.2.2.2))), (.r 0, some (.o 1 [[.d (.row .bor 3 (Rw (GFunc.cells .bor) x.1))]])), (.r 64, some (.o 3 [[V.int x.2.1.a, V.int x.2.1.b, V.int x.2.1.c]])), (.r 20000000, some (.o 1 (dd (Rw (cL .own 1 (cI .i64)) x.2.2.1)))), (.r 20000320, some (.o 3 [[V.int x.2.2.2.1, V.int x.2.2.2.2.1, .d (.row .bor 2 (Rw GI2.cells x.2.2.2.2.2.1))]]))]) (fun x => Yes (some (.inr x)) o4) ?_ ?_
       rotate_left
       rintro ⟨b1, b2, b3, b4, b5, b6, b7, b8, b9, b10⟩ h
       obtain rfl := h.get
       have h := hK4
       (try (simp only [Sum.elim_inl, Sum.elim_inr] at h))
       refine sw_gh ?_
       refine gh_sw ?_
       skip)
    | (with_reducible refine here_meet (N0 := 40000000) ?_
       skip
       (try (apply gh_resRow 20000000; (focus (simp only [putSt, lk, Res.s.injEq, Res.r.injEq, reduceCtorEq, Nat.reduceEqDiff, if_true, if_false]; try rfl)); (focus (first | (simp only [Rw_length, List.length_set]; omega) | (simp [Rw_length]; omega))); simp only [List.set_cons_zero, List.set_cons_succ, List.length_nil, List.length_cons, Nat.reduceAdd, Nat.reduceLeDiff, List.take_succ_cons, List.take_of_length_le, List.length_set, List.length_replicate, List.take_length, List.take_nil, List.take_zero, List.drop_nil, List.map_nil, List.map_cons, resSlotP, nameSlotP, Prog.wp, Prog.wp_bind, Prog.bind, Prog.ofO, putSt, lk, Res.s.injEq, Res.r.injEq, reduceCtorEq, Nat.reduceEqDiff, if_true, if_false, resV, resV.go, resV.gol, resGo_dd, dd_length, dd_take, dd_drop, dd_get, List.drop_zero, Rw_length, Rw_take, Rw_drop, Nat.zero_add, Nat.le_refl, true_and, and_true, and_self, nameAll, nameP, outP, outT, cntT, V.lin, D.lin, *, not_false_eq_true, List.not_mem_nil, List.mem_cons, reduceCtorEq, or_self, Nat.reduceEqDiff, List.map_cons, List.map_nil, GI2_Dset, GFunc_Dset, GProgram_Dset, GI3_Dset, LcIi64_Dset, LGI2_Dset]))
       refine meet_to (_, _, _, _, _, _, _, _, _, _) (by decide) ?_ h ?_
       · exact (by simp [slNL, C.inN, V.inN, V.inNs, V.inNss, inNss_dd, inNs_map_d])
       · simp only [SubL, putSt, lk, Res.s.injEq, Res.r.injEq, reduceCtorEq, Nat.reduceEqDiff, if_true, if_false, List.length_set, List.length_replicate]; repeat' (first | apply And.intro | rfl | trivial | (simp only [*]; done)))
    | (with_reducible refine here_join (a := (.block 1 _)) (b := (.region 19 _ _)) ?_
       skip
       revert h
       with_reducible refine bind_elimY ?_
       intro o3 h hK3
       unfold impl_verify.a3 at h
       refine sw_join (ι := (List GFunc) × GI3 × (List (List Int)) × (List GFunc) × Int × Int) 30000000 (fun x : (List GFunc) × GI3 × (List (List Int)) × (List GFunc) × Int × Int => [(.s 1, some (.v (.mp 0 1 0 0))), (.s 2, some (.v (.mp 64 3 0 0))), (.s 4, some (.v (.d (.row .own 1 (Rw (cL .own 1 (cI .i64)) x.2.2.1))))), (.s 24, some (.v (.d (.row .bor 3 (Rw (GFunc.cells .bor) x.2.2.2.1))))), (.s 25, some (.v (V.int x.2.2.2.2.1))), (.s 26, some (.v (V.int x.2.2.2.2.2))), (.r 0, some (.o 1 [[.d (.row .bor 3 (Rw (GFunc.cells .bor) x.1))]])), (.r 64, some (.o 3 [[V.int x.2.1.a, V.int x.2.1.b, V.int x.2.1.c]]))]) (fun x => Yes (some (.inr x)) o3) ?_ ?_
       rotate_left
       rintro ⟨b1, b2, b3, b4, b5, b6⟩ h
       obtain rfl := h.get
       have h := hK3
       (try (simp only [Sum.elim_inl, Sum.elim_inr] at h))
       refine sw_gh ?_
       refine gh_nameSlot 4 ?_
       simp only [List.set_cons_zero, List.set_cons_succ, List.length_nil, List.length_cons, Nat.reduceAdd, Nat.reduceLeDiff, List.take_succ_cons, List.take_of_length_le, List.length_set, List.length_replicate, List.take_length, List.take_nil, List.take_zero, List.drop_nil, List.map_nil, List.map_cons, resSlotP, nameSlotP, Prog.wp, Prog.wp_bind, Prog.bind, Prog.ofO, putSt, lk, Res.s.injEq, Res.r.injEq, reduceCtorEq, Nat.reduceEqDiff, if_true, if_false, resV, resV.go, resV.gol, resGo_dd, dd_length, dd_take, dd_drop, dd_get, List.drop_zero, Rw_length, Rw_take, Rw_drop, Nat.zero_add, Nat.le_refl, true_and, and_true, and_self, nameAll, nameP, outP, outT, cntT, V.lin, D.lin, Nat.reduceAdd]
       refine gh_sw ?_
       skip)
    | (with_reducible refine here_meet (N0 := 30000000) ?_
       skip
       refine gh_resSlot 4 ?_
       simp only [List.set_cons_zero, List.set_cons_succ, List.length_nil, List.length_cons, Nat.reduceAdd, Nat.reduceLeDiff, List.take_succ_cons, List.take_of_length_le, List.length_set, List.length_replicate, List.take_length, List.take_nil, List.take_zero, List.drop_nil, List.map_nil, List.map_cons, resSlotP, nameSlotP, Prog.wp, Prog.wp_bind, Prog.bind, Prog.ofO, putSt, lk, Res.s.injEq, Res.r.injEq, reduceCtorEq, Nat.reduceEqDiff, if_true, if_false, resV, resV.go, resV.gol, resGo_dd, dd_length, dd_take, dd_drop, dd_get, List.drop_zero, Rw_length, Rw_take, Rw_drop, Nat.zero_add, Nat.le_refl, true_and, and_true, and_self, nameAll, nameP, outP, outT, cntT, V.lin, D.lin, *]
       refine meet_to (_, _, _, _, _, _) (by decide) ?_ h ?_
       · exact (by simp [slNL, C.inN, V.inN, V.inNs, V.inNss, inNss_dd, inNs_map_d])
       · simp only [SubL, putSt, lk, Res.s.injEq, Res.r.injEq, reduceCtorEq, Nat.reduceEqDiff, if_true, if_false, List.length_set, List.length_replicate]; repeat' (first | apply And.intro | rfl | trivial | (simp only [*]; done)))
    | (with_reducible refine here_loop (c := (.seq (.region 5 _ _) _)) ?_
       skip
       revert h
       with_reducible refine bind_elimY ?_
       intro o2 h hK2
       refine sw_gh ?_
       (try (refine gh_nilRow 4 .own 1 ?_ ?_; (focus (simp only [putSt, lk, Res.s.injEq, Res.r.injEq, reduceCtorEq, Nat.reduceEqDiff, if_true, if_false]; done))))
       refine gh_resSlot 4 ?_
       simp only [List.set_cons_zero, List.set_cons_succ, List.length_nil, List.length_cons, Nat.reduceAdd, Nat.reduceLeDiff, List.take_succ_cons, List.take_of_length_le, List.length_set, List.length_replicate, List.take_length, List.take_nil, List.take_zero, List.drop_nil, List.map_nil, List.map_cons, resSlotP, nameSlotP, Prog.wp, Prog.wp_bind, Prog.bind, Prog.ofO, putSt, lk, Res.s.injEq, Res.r.injEq, reduceCtorEq, Nat.reduceEqDiff, if_true, if_false, resV, resV.go, resV.gol, resGo_dd, dd_length, dd_take, dd_drop, dd_get, List.drop_zero, Rw_length, Rw_take, Rw_drop, Nat.zero_add, Nat.le_refl, true_and, and_true, and_self, nameAll, nameP, outP, outT, cntT, V.lin, D.lin, *]
       refine gh_sw ?_
       refine sw_loop (ι := Nat × (List GFunc) × GI3 × (List (List Int)) × (List GFunc) × Int × Int) 20000000 (by decide) (fun x : Nat × (List GFunc) × GI3 × (List (List Int)) × (List GFunc) × Int × Int => [(.s 1, some (.v (.mp 0 1 0 0))), (.s 2, some (.v (.mp 64 3 0 0))), (.s 4, some (.v (.d (.row .own 1 (Rw (cL .own 1 (cI .i64)) x.2.2.2.1))))), (.s 24, some (.v (.d (.row .bor 3 (Rw (GFunc.cells .bor) x.2.2.2.2.1))))), (.s 25, some (.v (V.int x.2.2.2.2.2.1))), (.s 26, some (.v (V.int x.2.2.2.2.2.2))), (.r 0, some (.o 1 [[.d (.row .bor 3 (Rw (GFunc.cells .bor) x.2.1))]])), (.r 64, some (.o 3 [[V.int x.2.2.1.a, V.int x.2.2.1.b, V.int x.2.2.1.c]]))]) (fun x => x.1) (fun x => Yes (impl_verify.l2 x.1 x.2.1 x.2.2.1 x.2.2.2.1 x.2.2.2.2.1 x.2.2.2.2.2.1 x.2.2.2.2.2.2) o2) (_, _, _, _, _, _, _) ?_ h ?_ ?_
       · exact (by simp [slNL, C.inN, V.inN, V.inNs, V.inNss, inNss_dd, inNs_map_d])
       · simp only [SubL, putSt, lk, Res.s.injEq, Res.r.injEq, reduceCtorEq, Nat.reduceEqDiff, if_true, if_false, List.length_set, List.length_replicate]; repeat' (first | apply And.intro | rfl | trivial | (simp only [*]; done))
       rintro ⟨_ | k, a1, a2, a3, a4, a5, a6⟩ h
       · simp only [impl_verify.l2] at h; exact h.none
       simp only [impl_verify.l2] at h
       refine sw_gh ?_
       refine gh_nameSlot 4 ?_
       simp only [List.set_cons_zero, List.set_cons_succ, List.length_nil, List.length_cons, Nat.reduceAdd, Nat.reduceLeDiff, List.take_succ_cons, List.take_of_length_le, List.length_set, List.length_replicate, List.take_length, List.take_nil, List.take_zero, List.drop_nil, List.map_nil, List.map_cons, resSlotP, nameSlotP, Prog.wp, Prog.wp_bind, Prog.bind, Prog.ofO, putSt, lk, Res.s.injEq, Res.r.injEq, reduceCtorEq, Nat.reduceEqDiff, if_true, if_false, resV, resV.go, resV.gol, resGo_dd, dd_length, dd_take, dd_drop, dd_get, List.drop_zero, Rw_length, Rw_take, Rw_drop, Nat.zero_add, Nat.le_refl, true_and, and_true, and_self, nameAll, nameP, outP, outT, cntT, V.lin, D.lin, Nat.reduceAdd]
       refine gh_sw ?_
)
    | (with_reducible refine here_next (N0 := 20000000) ?_
       skip
       (try (refine gh_nilRow 4 .own 1 ?_ ?_; (focus (simp only [putSt, lk, Res.s.injEq, Res.r.injEq, reduceCtorEq, Nat.reduceEqDiff, if_true, if_false]; done))))
       refine gh_resSlot 4 ?_
       simp only [List.set_cons_zero, List.set_cons_succ, List.length_nil, List.length_cons, Nat.reduceAdd, Nat.reduceLeDiff, List.take_succ_cons, List.take_of_length_le, List.length_set, List.length_replicate, List.take_length, List.take_nil, List.take_zero, List.drop_nil, List.map_nil, List.map_cons, resSlotP, nameSlotP, Prog.wp, Prog.wp_bind, Prog.bind, Prog.ofO, putSt, lk, Res.s.injEq, Res.r.injEq, reduceCtorEq, Nat.reduceEqDiff, if_true, if_false, resV, resV.go, resV.gol, resGo_dd, dd_length, dd_take, dd_drop, dd_get, List.drop_zero, Rw_length, Rw_take, Rw_drop, Nat.zero_add, Nat.le_refl, true_and, and_true, and_self, nameAll, nameP, outP, outT, cntT, V.lin, D.lin, *]
       refine nexts_to (_, _, _, _, _, _, _) (by decide) ?_ (Nat.lt_succ_self _) h ?_
       · exact (by simp [slNL, C.inN, V.inN, V.inNs, V.inNss, inNss_dd, inNs_map_d])
       · simp only [SubL, putSt, lk, Res.s.injEq, Res.r.injEq, reduceCtorEq, Nat.reduceEqDiff, if_true, if_false, List.length_set, List.length_replicate]; repeat' (first | apply And.intro | rfl | trivial | (simp only [*]; done)))
    | (with_reducible refine here_join (a := (.seq (.region 1 _ _) _)) (b := (.seq (.region 3 _ _) _)) ?_
       skip
       revert h
       with_reducible refine bind_elimY ?_
       intro o1 h hK1
       unfold impl_verify.a1 at h
       refine sw_join (ι := (List GFunc) × GI3) 10000000 (fun x : (List GFunc) × GI3 => [(.s 1, some (.v (.mp 0 1 0 0))), (.s 2, some (.v (.mp 64 3 0 0))), (.r 0, some (.o 1 [[.d (.row .bor 3 (Rw (GFunc.cells .bor) x.1))]])), (.r 64, some (.o 3 [[V.int x.2.a, V.int x.2.b, V.int x.2.c]]))]) (fun x => Yes (some (.inr x)) o1) ?_ ?_
       rotate_left
       rintro ⟨b1, b2⟩ h
       obtain rfl := h.get
       have h := hK1
       (try (simp only [Sum.elim_inl, Sum.elim_inr] at h))
       refine sw_gh ?_
       refine gh_sw ?_
       skip)
    | (with_reducible refine here_meet (N0 := 10000000) ?_
       skip
       refine meet_to (_, _) (by decide) ?_ h ?_
       · exact (by simp [slNL, C.inN, V.inN, V.inNs, V.inNss, inNss_dd, inNs_map_d])
       · simp only [SubL, putSt, lk, Res.s.injEq, Res.r.injEq, reduceCtorEq, Nat.reduceEqDiff, if_true, if_false, List.length_set, List.length_replicate]; repeat' (first | apply And.intro | rfl | trivial | (simp only [*]; done)))
    | with_reducible refine sw_seq ?_
    | with_reducible refine seqQ_ret ?_
    | with_reducible refine seqQ_exit ?_
    | (with_reducible refine gh_nilRow 3 .own 1 ?_ ?_
       · simp only [putSt, lk, Res.s.injEq, Res.r.injEq, reduceCtorEq, Nat.reduceEqDiff, if_true, if_false]; done
       skip)
    | ((with_reducible refine wp_ite ?_ ?_)
       all_goals (intro hc; (try (simp only [Bool.not_eq_true, Bool.not_eq_false] at hc)); (try (revert h; first | (with_reducible refine condt_elim hc ?_; intro h) | (with_reducible refine condf_elim hc ?_; intro h) | fail)); simp only [hc]))
    | (with_reducible apply regW_skip
       · simp only [dstOk, Nat.reduceLT]
       · rfl
       · simp only [putSt, lk, Res.s.injEq, Res.r.injEq, reduceCtorEq, Nat.reduceEqDiff, if_true, if_false]; done)
    | (with_reducible apply regW_yesN
       · simp only [dstOk, Nat.reduceLT]
       · rfl
       · simp only [putSt, lk, Res.s.injEq, Res.r.injEq, reduceCtorEq, Nat.reduceEqDiff, if_true, if_false]; done)
    | (with_reducible apply regW_no
       · simp only [dstOk, Nat.reduceLT]
       · rfl
       · simp only [putSt, lk, Res.s.injEq, Res.r.injEq, reduceCtorEq, Nat.reduceEqDiff, if_true, if_false, Bool.not_true, Bool.not_false]; done)
    | (with_reducible apply regW_guardN
       · simp only [dstOk, Nat.reduceLT]
       · rfl
       · simp only [putSt, lk, Res.s.injEq, Res.r.injEq, reduceCtorEq, Nat.reduceEqDiff, if_true, if_false]; rfl
       all_goals (intro hc; (try (simp only [Bool.not_true, Bool.not_false] at hc)); (try (revert h; first | (with_reducible refine condt_elim hc ?_; intro h) | (with_reducible refine condf_elim hc ?_; intro h) | fail))))
    | ((with_reducible apply sw_cond
        · simp only [putSt, lk, Res.s.injEq, Res.r.injEq, reduceCtorEq, Nat.reduceEqDiff, if_true, if_false]; rfl
        all_goals (intro hc; try (cases hc; done)))
       all_goals (try (revert h; first | (with_reducible refine condt_elim hc ?_; intro h) | (with_reducible refine condf_elim hc ?_; intro h) | fail)))
    | ((first
        | ((with_reducible refine gh_ret ?_)
           revert h
           with_reducible refine some_elim ?_
           rintro rfl)
        | (with_reducible refine here_call ?_
           revert h
           with_reducible refine bind_elim ?_
           intro t ht h
           (first
             | (refine call_dataE (c_impl_in ht) ?_ rfl ?_
                · first | rfl | (simp; done))
             | (refine call_dataE (c_impl_InsRight ht) ?_ rfl ?_
                · first | rfl | (simp; done))
             | (refine call_dataE (c_impl_heightsOf ht) ?_ rfl ?_
                · first | rfl | (simp; done))))
        | (with_reducible apply regD_opK
           · simp only [dstOk, Nat.reduceLT]
           · simp only [Nat.reduceAdd]; rfl
           intro k hk)
        | (with_reducible apply regW_opK
           · simp only [dstOk, Nat.reduceLT]
           · simp only [Nat.reduceAdd]; rfl
           intro k hk)
        | skip)
       simp only [RetW, bn, opC, opP, fetchN, fetchP, fetchAll, fetchO, Prog.bind, Prog.wp, Prog.wp_bind, lk, nameP, nameAll, Value.oneCell', putSt, stepP, putP, Res.s.injEq, Res.r.injEq, reduceCtorEq, V.lin, V.linL, D.lin, isNil, binP, unP, BinOp.isShift, Prog.ofO, true_and, and_true, Nat.reduceAdd, Nat.reduceMul, Nat.reduceSub, Nat.reduceLT, Nat.reduceLeDiff, Nat.reduceEqDiff, if_true, if_false, ite_true, ite_false, Bool.false_eq_true, Bool.not_true, Bool.not_false, Bool.or_false, Bool.or_true, fieldAddrP, fieldP, indexAddrP, loadP, storeP, boxP, allocP, cellsP, asVal, setSeg, outP, outT, cntT, TyK.field, TyK.agg, zeroRow, V.ren, V.renL, forall_eq_or_imp, implies_true, false_implies, forall_const, and_self, true_or, minmaxP, lenP, lenOf, lenStr, V.asInt, decide_true, decide_false, sliceP, boundP, makeSliceP, convertP, appendP, rowsOfP, ontoP, sizeFits, V.rowSize, TyK.src, resV, resV.go, resV.gol, retP, retOne, retAll, resTo, objsAre, Option.map_eq_map, Function.const_apply, Int.reduceNeg, Int.reduceToNat, ty2, ty3, ty4, ty26, ty28, ty30, ty53, ty63, ty65, ty77, ty107, GFunc.cells, GI2.cells, GI3.cells, GProgram.cells, cI, cB, cS, cL, GI2_e, GFunc_e, GProgram_e, GI3_e, LcIi64_e, LGI2_e, buildP, buildSliceP, putParts, structPlaces, chunks, List.replicate, List.flatten_nil, List.flatten_cons, Option.bind_some, bb, GI2_b, GFunc_b, GProgram_b, GI3_b, LcIi64_b, LGI2_b, nilEqP, ne_eq, not_false_eq_true, not_true_eq_false, *]
       try (refine hk.use _ _ _ _ ?_; clear hk k))
    | fail)
  all_goals (try rfl)
  all_goals (try (simp; done))
  all_goals (try (simp_all; done))

end Go.Proofs.Ytdlaplgofgklnaa
namespace Go.Proofs.Ytdlaplgofgklnaa
open Go.Proofs Go.Proofs.Ytdlaplgofgklnaa.L
set_option maxHeartbeats 1000000
set_option linter.unusedSimpArgs false
set_option linter.unusedVariables false
set_option maxRecDepth 100000

def impl_known (k : Nat) (p0 : GProgram) : Option (Gprog × Bool) :=
  (impl_verify k p0).bind fun t1 => some ((⟨p0, t1.2⟩ : Gprog), (t1.1.c == 0))

theorem c_impl_known {k : Nat} {p0 : GProgram} {r : Gprog × Bool} (h : impl_known k p0 = some r) : Con Try.prog 69 [.agg [.d (.row .bor 3 (Rw (GFunc.cells .bor) p0.funcs))]] [] (.tup [.d (.ptr .own [.row .bor 3 (Rw (GFunc.cells .bor) r.1.program.funcs), .row .own 1 (Rw (cL .own 1 (cI .i64)) r.1.h)]), V.bool r.2]) [] := by
  refine con_of_sw Try.func69 rfl Try.call69 (by simp [Try.ntmps69]) (by simp [V.inNs, V.inN]) (by simp [C.inN, V.inNss, V.inNs, V.inN, inNss_dd]) (by simp [V.inNs, V.inN]) (by simp [C.inN, V.inNss, V.inNs, V.inN, inNss_dd]) rfl ?_
  rw [Try.ntmps69, Try.results69]
  unfold impl_known at h
  replace h := Yes.mk h
  simp only [entryS, entryO, Nat.reduceAdd, List.length_nil, List.length_cons]
  repeat' (first
    | with_reducible refine sw_reg ?_
    | with_reducible refine sw_ret ?_
    | with_reducible refine sw_skip ?_
    | with_reducible refine sw_block ?_
    | with_reducible refine sw_exit ?_
    | with_reducible refine seqQ_normal ?_
    | with_reducible refine blockQ_normal ?_
    | with_reducible refine blockQ_ret ?_
    | with_reducible refine blockQ_this ?_
    | with_reducible refine blockQ_other (by decide) ?_
    | with_reducible refine regW_nil ?_
    | with_reducible refine sw_draw mixed ?_
    | (with_reducible refine regD_nil ?_
       refine ⟨by kernel_rfl, ?_⟩)
    | with_reducible refine retQ_ret ?_
    | with_reducible refine retQ_normal ?_
    | (revert h; (first | ((with_reducible refine idx_elim ?_); intro m hm1 hm2 hm3 h; (try (simp only [Int.reduceToNat] at hm3)); (try (revert hm3; (with_reducible apply same_elim); (focus (with_reducible assumption)); rintro rfl)); (try (simp only [List.length_set, List.length_cons, List.length_nil, List.length_replicate, Nat.reduceAdd, Int.cast_ofNat_Int, Nat.zero_add, List.length_append] at hm2))) | (with_reducible refine sidx_elim ?_; intro m hm1 hm3 h) | (with_reducible refine gd_elim ?_; intro hg h; try (have hg2 := hg.2; have hg := hg.1; (try (simp only [Nat.reduceLeDiff] at hg2)); (try (revert hg2; (with_reducible refine toNat_elim hg ?_); intro hg2 hg4)); try (have hg3 := hg2.2; have hg2 := hg2.1; (try (simp only [Nat.reduceLeDiff] at hg3))))) | fail))
    | with_reducible refine sw_seq ?_
    | with_reducible refine seqQ_ret ?_
    | with_reducible refine seqQ_exit ?_
    | ((with_reducible refine wp_ite ?_ ?_)
       all_goals (intro hc; (try (simp only [Bool.not_eq_true, Bool.not_eq_false] at hc)); (try (revert h; first | (with_reducible refine condt_elim hc ?_; intro h) | (with_reducible refine condf_elim hc ?_; intro h) | fail)); simp only [hc]))
    | (with_reducible apply regW_skip
       · simp only [dstOk, Nat.reduceLT]
       · rfl
       · simp only [putSt, lk, Res.s.injEq, Res.r.injEq, reduceCtorEq, Nat.reduceEqDiff, if_true, if_false]; done)
    | (with_reducible apply regW_yesN
       · simp only [dstOk, Nat.reduceLT]
       · rfl
       · simp only [putSt, lk, Res.s.injEq, Res.r.injEq, reduceCtorEq, Nat.reduceEqDiff, if_true, if_false]; done)
    | (with_reducible apply regW_no
       · simp only [dstOk, Nat.reduceLT]
       · rfl
       · simp only [putSt, lk, Res.s.injEq, Res.r.injEq, reduceCtorEq, Nat.reduceEqDiff, if_true, if_false, Bool.not_true, Bool.not_false]; done)
    | (with_reducible apply regW_guardN
       · simp only [dstOk, Nat.reduceLT]
       · rfl
       · simp only [putSt, lk, Res.s.injEq, Res.r.injEq, reduceCtorEq, Nat.reduceEqDiff, if_true, if_false]; rfl
       all_goals (intro hc; (try (simp only [Bool.not_true, Bool.not_false] at hc)); (try (revert h; first | (with_reducible refine condt_elim hc ?_; intro h) | (with_reducible refine condf_elim hc ?_; intro h) | fail))))
    | ((with_reducible apply sw_cond
        · simp only [putSt, lk, Res.s.injEq, Res.r.injEq, reduceCtorEq, Nat.reduceEqDiff, if_true, if_false]; rfl
        all_goals (intro hc; try (cases hc; done)))
       all_goals (try (revert h; first | (with_reducible refine condt_elim hc ?_; intro h) | (with_reducible refine condf_elim hc ?_; intro h) | fail)))
    | ((first
        | ((with_reducible refine gh_ret ?_)
           revert h
           with_reducible refine some_elim ?_
           rintro rfl)
        | (with_reducible refine here_call ?_
           revert h
           with_reducible refine bind_elim ?_
           intro t ht h
           (first
             | (refine call_dataE (c_impl_verify ht) ?_ rfl ?_
                · first | rfl | (simp; done))))
        | (with_reducible apply regD_opK
           · simp only [dstOk, Nat.reduceLT]
           · simp only [Nat.reduceAdd]; rfl
           intro k hk)
        | (with_reducible apply regW_opK
           · simp only [dstOk, Nat.reduceLT]
           · simp only [Nat.reduceAdd]; rfl
           intro k hk)
        | skip)
       simp only [RetW, bn, opC, opP, fetchN, fetchP, fetchAll, fetchO, Prog.bind, Prog.wp, Prog.wp_bind, lk, nameP, nameAll, Value.oneCell', putSt, stepP, putP, Res.s.injEq, Res.r.injEq, reduceCtorEq, V.lin, V.linL, D.lin, isNil, binP, unP, BinOp.isShift, Prog.ofO, true_and, and_true, Nat.reduceAdd, Nat.reduceMul, Nat.reduceSub, Nat.reduceLT, Nat.reduceLeDiff, Nat.reduceEqDiff, if_true, if_false, ite_true, ite_false, Bool.false_eq_true, Bool.not_true, Bool.not_false, Bool.or_false, Bool.or_true, fieldAddrP, fieldP, indexAddrP, loadP, storeP, boxP, allocP, cellsP, asVal, setSeg, outP, outT, cntT, TyK.field, TyK.agg, zeroRow, V.ren, V.renL, forall_eq_or_imp, implies_true, false_implies, forall_const, and_self, true_or, minmaxP, lenP, lenOf, lenStr, V.asInt, decide_true, decide_false, sliceP, boundP, makeSliceP, convertP, appendP, rowsOfP, ontoP, sizeFits, V.rowSize, TyK.src, resV, resV.go, resV.gol, retP, retOne, retAll, resTo, objsAre, Option.map_eq_map, Function.const_apply, Int.reduceNeg, Int.reduceToNat, ty2, ty4, ty26, ty28, ty30, ty53, ty63, ty65, ty68, ty77, ty107, ty122, GFunc.cells, GI2.cells, GI3.cells, GProgram.cells, Gprog.cells, cI, cB, cS, cL, GI2_e, GFunc_e, GProgram_e, Gprog_e, GI3_e, LcIi64_e, LGI2_e, buildP, buildSliceP, putParts, structPlaces, chunks, List.replicate, List.flatten_nil, List.flatten_cons, Option.bind_some, nilEqP, ne_eq, not_false_eq_true, not_true_eq_false, *]
       try (refine hk.use _ _ _ _ ?_; clear hk k))
    | fail)
  all_goals (try rfl)
  all_goals (try (simp; done))
  all_goals (try (simp_all; done))

end Go.Proofs.Ytdlaplgofgklnaa
namespace Go.Proofs.Ytdlaplgofgklnaa
open Go.Proofs Go.Proofs.Ytdlaplgofgklnaa.L
set_option maxHeartbeats 1000000
set_option linter.unusedSimpArgs false
set_option linter.unusedVariables false
set_option maxRecDepth 100000

def impl_knownFunc (k : Nat) (p0 : GProgram) (p1 : Int) : Option (Gprog × Bool) :=
  (impl_known k p0).bind fun t1 => cond t1.2 ((impl_hasFunc p0 p1).bind fun t2 => some (t1.1, t2)) (some (t1.1, false))

theorem c_impl_knownFunc {k : Nat} {p0 : GProgram} {p1 : Int} {r : Gprog × Bool} (h : impl_knownFunc k p0 p1 = some r) : Con Try.prog 39 [.agg [.d (.row .bor 3 (Rw (GFunc.cells .bor) p0.funcs))], V.int p1] [] (.tup [.d (.ptr .own [.row .bor 3 (Rw (GFunc.cells .bor) r.1.program.funcs), .row .own 1 (Rw (cL .own 1 (cI .i64)) r.1.h)]), V.bool r.2]) [] := by
  refine con_of_sw Try.func39 rfl Try.call39 (by simp [Try.ntmps39]) (by simp [V.inNs, V.inN]) (by simp [C.inN, V.inNss, V.inNs, V.inN, inNss_dd]) (by simp [V.inNs, V.inN]) (by simp [C.inN, V.inNss, V.inNs, V.inN, inNss_dd]) rfl ?_
  rw [Try.ntmps39, Try.results39]
  unfold impl_knownFunc at h
  replace h := Yes.mk h
  simp only [entryS, entryO, Nat.reduceAdd, List.length_nil, List.length_cons]
  repeat' (first
    | with_reducible refine sw_reg ?_
    | with_reducible refine sw_ret ?_
    | with_reducible refine sw_skip ?_
    | with_reducible refine sw_block ?_
    | with_reducible refine sw_exit ?_
    | with_reducible refine seqQ_normal ?_
    | with_reducible refine blockQ_normal ?_
    | with_reducible refine blockQ_ret ?_
    | with_reducible refine blockQ_this ?_
    | with_reducible refine blockQ_other (by decide) ?_
    | with_reducible refine regW_nil ?_
    | with_reducible refine sw_draw mixed ?_
    | (with_reducible refine regD_nil ?_
       refine ⟨by kernel_rfl, ?_⟩)
    | with_reducible refine retQ_ret ?_
    | with_reducible refine retQ_normal ?_
    | (revert h; (first | ((with_reducible refine idx_elim ?_); intro m hm1 hm2 hm3 h; (try (simp only [Int.reduceToNat] at hm3)); (try (revert hm3; (with_reducible apply same_elim); (focus (with_reducible assumption)); rintro rfl)); (try (simp only [List.length_set, List.length_cons, List.length_nil, List.length_replicate, Nat.reduceAdd, Int.cast_ofNat_Int, Nat.zero_add, List.length_append] at hm2))) | (with_reducible refine sidx_elim ?_; intro m hm1 hm3 h) | (with_reducible refine gd_elim ?_; intro hg h; try (have hg2 := hg.2; have hg := hg.1; (try (simp only [Nat.reduceLeDiff] at hg2)); (try (revert hg2; (with_reducible refine toNat_elim hg ?_); intro hg2 hg4)); try (have hg3 := hg2.2; have hg2 := hg2.1; (try (simp only [Nat.reduceLeDiff] at hg3))))) | fail))
    | with_reducible refine sw_seq ?_
    | with_reducible refine seqQ_ret ?_
    | with_reducible refine seqQ_exit ?_
    | ((with_reducible refine wp_ite ?_ ?_)
       all_goals (intro hc; (try (simp only [Bool.not_eq_true, Bool.not_eq_false] at hc)); (try (revert h; first | (with_reducible refine condt_elim hc ?_; intro h) | (with_reducible refine condf_elim hc ?_; intro h) | fail)); simp only [hc]))
    | (with_reducible apply regW_skip
       · simp only [dstOk, Nat.reduceLT]
       · rfl
       · simp only [putSt, lk, Res.s.injEq, Res.r.injEq, reduceCtorEq, Nat.reduceEqDiff, if_true, if_false]; done)
    | (with_reducible apply regW_yesN
       · simp only [dstOk, Nat.reduceLT]
       · rfl
       · simp only [putSt, lk, Res.s.injEq, Res.r.injEq, reduceCtorEq, Nat.reduceEqDiff, if_true, if_false]; done)
    | (with_reducible apply regW_no
       · simp only [dstOk, Nat.reduceLT]
       · rfl
       · simp only [putSt, lk, Res.s.injEq, Res.r.injEq, reduceCtorEq, Nat.reduceEqDiff, if_true, if_false, Bool.not_true, Bool.not_false]; done)
    | (with_reducible apply regW_guardN
       · simp only [dstOk, Nat.reduceLT]
       · rfl
       · simp only [putSt, lk, Res.s.injEq, Res.r.injEq, reduceCtorEq, Nat.reduceEqDiff, if_true, if_false]; rfl
       all_goals (intro hc; (try (simp only [Bool.not_true, Bool.not_false] at hc)); (try (revert h; first | (with_reducible refine condt_elim hc ?_; intro h) | (with_reducible refine condf_elim hc ?_; intro h) | fail))))
    | ((with_reducible apply sw_cond
        · simp only [putSt, lk, Res.s.injEq, Res.r.injEq, reduceCtorEq, Nat.reduceEqDiff, if_true, if_false]; rfl
        all_goals (intro hc; try (cases hc; done)))
       all_goals (try (revert h; first | (with_reducible refine condt_elim hc ?_; intro h) | (with_reducible refine condf_elim hc ?_; intro h) | fail)))
    | ((first
        | ((with_reducible refine gh_ret ?_)
           revert h
           with_reducible refine some_elim ?_
           rintro rfl)
        | (with_reducible refine here_call ?_
           revert h
           with_reducible refine bind_elim ?_
           intro t ht h
           (first
             | (refine call_dataE (c_impl_known ht) ?_ rfl ?_
                · first | rfl | (simp; done))
             | (refine call_dataE (c_impl_hasFunc ht) ?_ rfl ?_
                · first | rfl | (simp; done))))
        | (with_reducible apply regD_opK
           · simp only [dstOk, Nat.reduceLT]
           · simp only [Nat.reduceAdd]; rfl
           intro k hk)
        | (with_reducible apply regW_opK
           · simp only [dstOk, Nat.reduceLT]
           · simp only [Nat.reduceAdd]; rfl
           intro k hk)
        | skip)
       simp only [RetW, bn, opC, opP, fetchN, fetchP, fetchAll, fetchO, Prog.bind, Prog.wp, Prog.wp_bind, lk, nameP, nameAll, Value.oneCell', putSt, stepP, putP, Res.s.injEq, Res.r.injEq, reduceCtorEq, V.lin, V.linL, D.lin, isNil, binP, unP, BinOp.isShift, Prog.ofO, true_and, and_true, Nat.reduceAdd, Nat.reduceMul, Nat.reduceSub, Nat.reduceLT, Nat.reduceLeDiff, Nat.reduceEqDiff, if_true, if_false, ite_true, ite_false, Bool.false_eq_true, Bool.not_true, Bool.not_false, Bool.or_false, Bool.or_true, fieldAddrP, fieldP, indexAddrP, loadP, storeP, boxP, allocP, cellsP, asVal, setSeg, outP, outT, cntT, TyK.field, TyK.agg, zeroRow, V.ren, V.renL, forall_eq_or_imp, implies_true, false_implies, forall_const, and_self, true_or, minmaxP, lenP, lenOf, lenStr, V.asInt, decide_true, decide_false, sliceP, boundP, makeSliceP, convertP, appendP, rowsOfP, ontoP, sizeFits, V.rowSize, TyK.src, resV, resV.go, resV.gol, retP, retOne, retAll, resTo, objsAre, Option.map_eq_map, Function.const_apply, Int.reduceNeg, Int.reduceToNat, ty2, ty4, ty26, ty28, ty30, ty53, ty63, ty65, ty68, ty107, ty122, GFunc.cells, GI2.cells, GProgram.cells, Gprog.cells, cI, cB, cS, cL, GI2_e, GFunc_e, GProgram_e, Gprog_e, LcIi64_e, LGI2_e, nilEqP, ne_eq, not_false_eq_true, not_true_eq_false, *]
       try (refine hk.use _ _ _ _ ?_; clear hk k))
    | fail)
  all_goals (try rfl)
  all_goals (try (simp; done))
  all_goals (try (simp_all; done))

end Go.Proofs.Ytdlaplgofgklnaa
namespace Go.Proofs.Ytdlaplgofgklnaa
open Go.Proofs Go.Proofs.Ytdlaplgofgklnaa.L
set_option maxHeartbeats 1000000
set_option linter.unusedSimpArgs false
set_option linter.unusedVariables false
set_option maxRecDepth 100000

def impl_prog_code (p0 : Gprog) (p1 : Int) : Option ((List GI2)) :=
  (idx p0.program.funcs p1).bind fun m1 => some m1.code

theorem c_impl_prog_code {p0 : Gprog} {p1 : Int} {r : (List GI2)} (h : impl_prog_code p0 p1 = some r) : Con Try.prog 50 [.d (.ptr .bor [.row .bor 3 (Rw (GFunc.cells .bor) p0.program.funcs), .row .bor 1 (Rw (cL .bor 1 (cI .i64)) p0.h)]), V.int p1] [] (.d (.row .bor 2 (Rw GI2.cells r))) [] := by
  refine con_of_sw Try.func50 rfl Try.call50 (by simp [Try.ntmps50]) (by simp [V.inNs, V.inN]) (by simp [C.inN, V.inNss, V.inNs, V.inN, inNss_dd]) (by simp [V.inNs, V.inN]) (by simp [C.inN, V.inNss, V.inNs, V.inN, inNss_dd]) rfl ?_
  rw [Try.ntmps50, Try.results50]
  unfold impl_prog_code at h
  replace h := Yes.mk h
  simp only [entryS, entryO, Nat.reduceAdd, List.length_nil, List.length_cons]
  repeat' (first
    | with_reducible refine sw_reg ?_
    | with_reducible refine sw_ret ?_
    | with_reducible refine sw_skip ?_
    | with_reducible refine sw_block ?_
    | with_reducible refine sw_exit ?_
    | with_reducible refine seqQ_normal ?_
    | with_reducible refine blockQ_normal ?_
    | with_reducible refine blockQ_ret ?_
    | with_reducible refine blockQ_this ?_
    | with_reducible refine blockQ_other (by decide) ?_
    | with_reducible refine regW_nil ?_
    | with_reducible refine sw_draw mixed ?_
    | (with_reducible refine regD_nil ?_
       refine ⟨by kernel_rfl, ?_⟩)
    | with_reducible refine retQ_ret ?_
    | with_reducible refine retQ_normal ?_
    | (revert h; (first | ((with_reducible refine idx_elim ?_); intro m hm1 hm2 hm3 h; (try (simp only [Int.reduceToNat] at hm3)); (try (revert hm3; (with_reducible apply same_elim); (focus (with_reducible assumption)); rintro rfl)); (try (simp only [List.length_set, List.length_cons, List.length_nil, List.length_replicate, Nat.reduceAdd, Int.cast_ofNat_Int, Nat.zero_add, List.length_append] at hm2))) | (with_reducible refine sidx_elim ?_; intro m hm1 hm3 h) | (with_reducible refine gd_elim ?_; intro hg h; try (have hg2 := hg.2; have hg := hg.1; (try (simp only [Nat.reduceLeDiff] at hg2)); (try (revert hg2; (with_reducible refine toNat_elim hg ?_); intro hg2 hg4)); try (have hg3 := hg2.2; have hg2 := hg2.1; (try (simp only [Nat.reduceLeDiff] at hg3))))) | fail))
    | with_reducible refine sw_seq ?_
    | with_reducible refine seqQ_ret ?_
    | with_reducible refine seqQ_exit ?_
    | (with_reducible refine gh_nilRow 4 .own 2 ?_ ?_
       · simp only [putSt, lk, Res.s.injEq, Res.r.injEq, reduceCtorEq, Nat.reduceEqDiff, if_true, if_false]; done
       skip)
    | ((with_reducible refine wp_ite ?_ ?_)
       all_goals (intro hc; (try (simp only [Bool.not_eq_true, Bool.not_eq_false] at hc)); (try (revert h; first | (with_reducible refine condt_elim hc ?_; intro h) | (with_reducible refine condf_elim hc ?_; intro h) | fail)); simp only [hc]))
    | (with_reducible apply regW_skip
       · simp only [dstOk, Nat.reduceLT]
       · rfl
       · simp only [putSt, lk, Res.s.injEq, Res.r.injEq, reduceCtorEq, Nat.reduceEqDiff, if_true, if_false]; done)
    | (with_reducible apply regW_yesN
       · simp only [dstOk, Nat.reduceLT]
       · rfl
       · simp only [putSt, lk, Res.s.injEq, Res.r.injEq, reduceCtorEq, Nat.reduceEqDiff, if_true, if_false]; done)
    | (with_reducible apply regW_no
       · simp only [dstOk, Nat.reduceLT]
       · rfl
       · simp only [putSt, lk, Res.s.injEq, Res.r.injEq, reduceCtorEq, Nat.reduceEqDiff, if_true, if_false, Bool.not_true, Bool.not_false]; done)
    | (with_reducible apply regW_guardN
       · simp only [dstOk, Nat.reduceLT]
       · rfl
       · simp only [putSt, lk, Res.s.injEq, Res.r.injEq, reduceCtorEq, Nat.reduceEqDiff, if_true, if_false]; rfl
       all_goals (intro hc; (try (simp only [Bool.not_true, Bool.not_false] at hc)); (try (revert h; first | (with_reducible refine condt_elim hc ?_; intro h) | (with_reducible refine condf_elim hc ?_; intro h) | fail))))
    | ((with_reducible apply sw_cond
        · simp only [putSt, lk, Res.s.injEq, Res.r.injEq, reduceCtorEq, Nat.reduceEqDiff, if_true, if_false]; rfl
        all_goals (intro hc; try (cases hc; done)))
       all_goals (try (revert h; first | (with_reducible refine condt_elim hc ?_; intro h) | (with_reducible refine condf_elim hc ?_; intro h) | fail)))
    | ((first
        | ((with_reducible refine gh_ret ?_)
           revert h
           with_reducible refine some_elim ?_
           rintro rfl)
        | (with_reducible apply regD_opK
           · simp only [dstOk, Nat.reduceLT]
           · simp only [Nat.reduceAdd]; rfl
           intro k hk)
        | (with_reducible apply regW_opK
           · simp only [dstOk, Nat.reduceLT]
           · simp only [Nat.reduceAdd]; rfl
           intro k hk)
        | skip)
       simp only [RetW, bn, opC, opP, fetchN, fetchP, fetchAll, fetchO, Prog.bind, Prog.wp, Prog.wp_bind, lk, nameP, nameAll, Value.oneCell', putSt, stepP, putP, Res.s.injEq, Res.r.injEq, reduceCtorEq, V.lin, V.linL, D.lin, isNil, binP, unP, BinOp.isShift, Prog.ofO, true_and, and_true, Nat.reduceAdd, Nat.reduceMul, Nat.reduceSub, Nat.reduceLT, Nat.reduceLeDiff, Nat.reduceEqDiff, if_true, if_false, ite_true, ite_false, Bool.false_eq_true, Bool.not_true, Bool.not_false, Bool.or_false, Bool.or_true, fieldAddrP, fieldP, indexAddrP, loadP, storeP, boxP, allocP, cellsP, asVal, setSeg, outP, outT, cntT, TyK.field, TyK.agg, zeroRow, V.ren, V.renL, forall_eq_or_imp, implies_true, false_implies, forall_const, and_self, true_or, minmaxP, lenP, lenOf, lenStr, V.asInt, decide_true, decide_false, sliceP, boundP, makeSliceP, convertP, appendP, rowsOfP, ontoP, sizeFits, V.rowSize, TyK.src, resV, resV.go, resV.gol, retP, retOne, retAll, resTo, objsAre, Option.map_eq_map, Function.const_apply, Int.reduceNeg, Int.reduceToNat, ty2, ty26, ty28, ty30, ty53, ty63, ty65, ty68, ty107, ty122, GFunc.cells, GI2.cells, GProgram.cells, Gprog.cells, cI, cB, cS, cL, GI2_e, GFunc_e, GProgram_e, Gprog_e, LcIi64_e, LGI2_e, nilEqP, ne_eq, not_false_eq_true, not_true_eq_false, *]
       try (refine hk.use _ _ _ _ ?_; clear hk k))
    | fail)
  all_goals (try rfl)
  all_goals (try (simp; done))
  all_goals (try (simp_all; done))

end Go.Proofs.Ytdlaplgofgklnaa
namespace Go.Proofs.Ytdlaplgofgklnaa
open Go.Proofs Go.Proofs.Ytdlaplgofgklnaa.L
set_option maxHeartbeats 1000000
set_option linter.unusedSimpArgs false
set_option linter.unusedVariables false
set_option maxRecDepth 100000

def impl_prog_place (p0 : Gprog) (p1 : Int) (p2 : Int) : Option (Bool) :=
  (impl_prog_code p0 p1).bind fun t1 => (impl_in p2 0 ((IntKind.i64.wrap (((t1.length : Int)) - 1)))).bind fun t2 => some t2

end Go.Proofs.Ytdlaplgofgklnaa
namespace Go.Proofs.Ytdlaplgofgklnaa
open Go.Proofs Go.Proofs.Ytdlaplgofgklnaa.L
set_option maxHeartbeats 1000000
set_option linter.unusedSimpArgs false
set_option linter.unusedVariables false
set_option maxRecDepth 100000

def impl_prog_reached (p0 : Gprog) (p1 : Int) (p2 : Int) : Option (Bool) :=
  (impl_hasFunc p0.program p1).bind fun t1 => cond t1 (cond ((decide (p2 ≥ 0))) ((idx p0.h p1).bind fun m2 => cond ((decide (p2 < ((m2.length : Int))))) ((idx m2 p2).bind fun m3 => some ((decide (m3 ≥ 0)))) (some false)) (some false)) (some false)

theorem c_impl_prog_reached {p0 : Gprog} {p1 : Int} {p2 : Int} {r : Bool} (h : impl_prog_reached p0 p1 p2 = some r) : Con Try.prog 72 [.d (.ptr .bor [.row .bor 3 (Rw (GFunc.cells .bor) p0.program.funcs), .row .bor 1 (Rw (cL .bor 1 (cI .i64)) p0.h)]), V.int p1, V.int p2] [] (V.bool r) [] := by
  refine con_of_sw Try.func72 rfl Try.call72 (by simp [Try.ntmps72]) (by simp [V.inNs, V.inN]) (by simp [C.inN, V.inNss, V.inNs, V.inN, inNss_dd]) (by simp [V.inNs, V.inN]) (by simp [C.inN, V.inNss, V.inNs, V.inN, inNss_dd]) rfl ?_
  rw [Try.ntmps72, Try.results72]
  unfold impl_prog_reached at h
  replace h := Yes.mk h
  simp only [entryS, entryO, Nat.reduceAdd, List.length_nil, List.length_cons]
  repeat' (first
    | with_reducible refine sw_reg ?_
    | with_reducible refine sw_ret ?_
    | with_reducible refine sw_skip ?_
    | with_reducible refine sw_block ?_
    | with_reducible refine sw_exit ?_
    | with_reducible refine seqQ_normal ?_
    | with_reducible refine blockQ_normal ?_
    | with_reducible refine blockQ_ret ?_
    | with_reducible refine blockQ_this ?_
    | with_reducible refine blockQ_other (by decide) ?_
    | with_reducible refine regW_nil ?_
    | with_reducible refine sw_draw mixed ?_
    | (with_reducible refine regD_nil ?_
       refine ⟨by kernel_rfl, ?_⟩)
    | with_reducible refine retQ_ret ?_
    | with_reducible refine retQ_normal ?_
    | (revert h; (first | ((with_reducible refine idx_elim ?_); intro m hm1 hm2 hm3 h; (try (simp only [Int.reduceToNat] at hm3)); (try (revert hm3; (with_reducible apply same_elim); (focus (with_reducible assumption)); rintro rfl)); (try (simp only [List.length_set, List.length_cons, List.length_nil, List.length_replicate, Nat.reduceAdd, Int.cast_ofNat_Int, Nat.zero_add, List.length_append] at hm2))) | (with_reducible refine sidx_elim ?_; intro m hm1 hm3 h) | (with_reducible refine gd_elim ?_; intro hg h; try (have hg2 := hg.2; have hg := hg.1; (try (simp only [Nat.reduceLeDiff] at hg2)); (try (revert hg2; (with_reducible refine toNat_elim hg ?_); intro hg2 hg4)); try (have hg3 := hg2.2; have hg2 := hg2.1; (try (simp only [Nat.reduceLeDiff] at hg3))))) | fail))
    | with_reducible refine sw_seq ?_
    | with_reducible refine seqQ_ret ?_
    | with_reducible refine seqQ_exit ?_
    | ((with_reducible refine wp_ite ?_ ?_)
       all_goals (intro hc; (try (simp only [Bool.not_eq_true, Bool.not_eq_false] at hc)); (try (revert h; first | (with_reducible refine condt_elim hc ?_; intro h) | (with_reducible refine condf_elim hc ?_; intro h) | fail)); simp only [hc]))
    | (with_reducible apply regW_skip
       · simp only [dstOk, Nat.reduceLT]
       · rfl
       · simp only [putSt, lk, Res.s.injEq, Res.r.injEq, reduceCtorEq, Nat.reduceEqDiff, if_true, if_false]; done)
    | (with_reducible apply regW_yesN
       · simp only [dstOk, Nat.reduceLT]
       · rfl
       · simp only [putSt, lk, Res.s.injEq, Res.r.injEq, reduceCtorEq, Nat.reduceEqDiff, if_true, if_false]; done)
    | (with_reducible apply regW_no
       · simp only [dstOk, Nat.reduceLT]
       · rfl
       · simp only [putSt, lk, Res.s.injEq, Res.r.injEq, reduceCtorEq, Nat.reduceEqDiff, if_true, if_false, Bool.not_true, Bool.not_false]; done)
    | (with_reducible apply regW_guardN
       · simp only [dstOk, Nat.reduceLT]
       · rfl
       · simp only [putSt, lk, Res.s.injEq, Res.r.injEq, reduceCtorEq, Nat.reduceEqDiff, if_true, if_false]; rfl
       all_goals (intro hc; (try (simp only [Bool.not_true, Bool.not_false] at hc)); (try (revert h; first | (with_reducible refine condt_elim hc ?_; intro h) | (with_reducible refine condf_elim hc ?_; intro h) | fail))))
    | ((with_reducible apply sw_cond
        · simp only [putSt, lk, Res.s.injEq, Res.r.injEq, reduceCtorEq, Nat.reduceEqDiff, if_true, if_false]; rfl
        all_goals (intro hc; try (cases hc; done)))
       all_goals (try (revert h; first | (with_reducible refine condt_elim hc ?_; intro h) | (with_reducible refine condf_elim hc ?_; intro h) | fail)))
    | ((first
        | ((with_reducible refine gh_ret ?_)
           revert h
           with_reducible refine some_elim ?_
           rintro rfl)
        | (with_reducible refine here_call ?_
           revert h
           with_reducible refine bind_elim ?_
           intro t ht h
           (first
             | (refine call_dataE (c_impl_hasFunc ht) ?_ rfl ?_
                · first | rfl | (simp; done))))
        | (with_reducible apply regD_opK
           · simp only [dstOk, Nat.reduceLT]
           · simp only [Nat.reduceAdd]; rfl
           intro k hk)
        | (with_reducible apply regW_opK
           · simp only [dstOk, Nat.reduceLT]
           · simp only [Nat.reduceAdd]; rfl
           intro k hk)
        | skip)
       simp only [RetW, bn, opC, opP, fetchN, fetchP, fetchAll, fetchO, Prog.bind, Prog.wp, Prog.wp_bind, lk, nameP, nameAll, Value.oneCell', putSt, stepP, putP, Res.s.injEq, Res.r.injEq, reduceCtorEq, V.lin, V.linL, D.lin, isNil, binP, unP, BinOp.isShift, Prog.ofO, true_and, and_true, Nat.reduceAdd, Nat.reduceMul, Nat.reduceSub, Nat.reduceLT, Nat.reduceLeDiff, Nat.reduceEqDiff, if_true, if_false, ite_true, ite_false, Bool.false_eq_true, Bool.not_true, Bool.not_false, Bool.or_false, Bool.or_true, fieldAddrP, fieldP, indexAddrP, loadP, storeP, boxP, allocP, cellsP, asVal, setSeg, outP, outT, cntT, TyK.field, TyK.agg, zeroRow, V.ren, V.renL, forall_eq_or_imp, implies_true, false_implies, forall_const, and_self, true_or, minmaxP, lenP, lenOf, lenStr, V.asInt, decide_true, decide_false, sliceP, boundP, makeSliceP, convertP, appendP, rowsOfP, ontoP, sizeFits, V.rowSize, TyK.src, resV, resV.go, resV.gol, retP, retOne, retAll, resTo, objsAre, Option.map_eq_map, Function.const_apply, Int.reduceNeg, Int.reduceToNat, ty2, ty4, ty26, ty28, ty30, ty53, ty63, ty65, ty68, ty107, ty122, GFunc.cells, GI2.cells, GProgram.cells, Gprog.cells, cI, cB, cS, cL, GI2_e, GFunc_e, GProgram_e, Gprog_e, LcIi64_e, LGI2_e, nilEqP, ne_eq, not_false_eq_true, not_true_eq_false, *]
       try (refine hk.use _ _ _ _ ?_; clear hk k))
    | fail)
  all_goals (try rfl)
  all_goals (try (simp; done))
  all_goals (try (simp_all; done))

end Go.Proofs.Ytdlaplgofgklnaa
namespace Go.Proofs.Ytdlaplgofgklnaa
open Go.Proofs Go.Proofs.Ytdlaplgofgklnaa.L
set_option maxHeartbeats 1000000
set_option linter.unusedSimpArgs false
set_option linter.unusedVariables false
set_option maxRecDepth 100000

def impl_prog_preds.l3 : Nat → (List Int) → Gprog → Int → Int → (List Int) → Int → (List GI2) → Int → Int → Int → Int → Option (Gprog × Int × Int × (List Int) × (List GI2) × Int × Int)
  | 0, _, _, _, _, _, _, _, _, _, _, _ => none
  | k + 1, a1, a2, a3, a4, a5, a6, a7, a8, a9, a10, a11 => cond ((decide (a11 < a10))) ((idx a1 a11).bind fun m5 => cond ((m5 == a4)) (gd ((a5.length + 1) * 8 ≤ 35184372088832 ∧ a5.length + 1 ≤ 35184372088832) (some (a2, a3, a4, (a5 ++ [a6]), a7, a8, a9))) (impl_prog_preds.l3 k a1 a2 a3 a4 a5 a6 a7 a8 a9 a10 ((IntKind.i64.wrap (a11 + 1))))) (some (a2, a3, a4, a5, a7, a8, a9))

def impl_prog_preds.a2 (k : Nat) (a1 : (List Int)) (a2 : Gprog) (a3 : Int) (a4 : Int) (a5 : (List GI2)) (a6 : Int) (a7 : Int) : Option (Gprog × Int × Int × (List Int) × (List GI2) × Int × Int) :=
  (idx a5 a7).bind fun m2 => (impl_prog_reached a2 a3 a7).bind fun t3 => cond ((!t3)) (some (a2, a3, a4, a1, a5, a6, a7)) ((impl_next m2 a7).bind fun t4 => (impl_prog_preds.l3 k t4 a2 a3 a4 a1 a7 a5 a6 a7 ((t4.length : Int)) 0).bind fun o3 => some (o3.1, o3.2.1, o3.2.2.1, o3.2.2.2.1, o3.2.2.2.2.1, o3.2.2.2.2.2.1, o3.2.2.2.2.2.2))

def impl_prog_preds.l1 : Nat → Gprog → Int → Int → (List Int) → (List GI2) → Int → Int → Option ((List Int))
  | 0, _, _, _, _, _, _, _ => none
  | k + 1, a1, a2, a3, a4, a5, a6, a7 => cond ((decide (a7 < a6))) ((impl_prog_preds.a2 k a4 a1 a2 a3 a5 a6 a7).bind fun o2 => impl_prog_preds.l1 k o2.1 o2.2.1 o2.2.2.1 o2.2.2.2.1 o2.2.2.2.2.1 o2.2.2.2.2.2.1 ((IntKind.i64.wrap (o2.2.2.2.2.2.2 + 1)))) (some (a4))

def impl_prog_preds (k : Nat) (p0 : Gprog) (p1 : Int) (p2 : Int) : Option ((List Int)) :=
  (impl_prog_code p0 p1).bind fun t1 => (impl_prog_preds.l1 k p0 p1 p2 [] t1 ((t1.length : Int)) 0).bind fun o1 => some o1

theorem c_impl_prog_preds {k : Nat} {p0 : Gprog} {p1 : Int} {p2 : Int} {r : (List Int)} (h : impl_prog_preds k p0 p1 p2 = some r) : Con Try.prog 41 [.d (.ptr .bor [.row .bor 3 (Rw (GFunc.cells .bor) p0.program.funcs), .row .bor 1 (Rw (cL .bor 1 (cI .i64)) p0.h)]), V.int p1, V.int p2] [] (.d (.row .own 1 (Rw (cI .i64) r))) [] := by
  refine con_of_sw Try.func41 rfl Try.call41 (by simp [Try.ntmps41]) (by simp [V.inNs, V.inN]) (by simp [C.inN, V.inNss, V.inNs, V.inN, inNss_dd]) (by simp [V.inNs, V.inN]) (by simp [C.inN, V.inNss, V.inNs, V.inN, inNss_dd]) rfl ?_
  rw [Try.ntmps41, Try.results41]
  unfold impl_prog_preds at h
  replace h := Yes.mk h
  simp only [entryS, entryO, Nat.reduceAdd, List.length_nil, List.length_cons]
  repeat' (first
    | with_reducible refine sw_reg ?_
    | with_reducible refine sw_ret ?_
    | with_reducible refine sw_skip ?_
    | with_reducible refine sw_block ?_
    | with_reducible refine sw_exit ?_
    | with_reducible refine seqQ_normal ?_
    | with_reducible refine blockQ_normal ?_
    | with_reducible refine blockQ_ret ?_
    | with_reducible refine blockQ_this ?_
    | with_reducible refine blockQ_other (by decide) ?_
    | with_reducible refine regW_nil ?_
    | with_reducible refine sw_draw mixed ?_
    | (with_reducible refine regD_nil ?_
       refine ⟨by kernel_rfl, ?_⟩)
    | with_reducible refine retQ_ret ?_
    | with_reducible refine retQ_normal ?_
    | (revert h; (first | ((with_reducible refine idx_elim ?_); intro m hm1 hm2 hm3 h; (try (simp only [Int.reduceToNat] at hm3)); (try (revert hm3; (with_reducible apply same_elim); (focus (with_reducible assumption)); rintro rfl)); (try (simp only [List.length_set, List.length_cons, List.length_nil, List.length_replicate, Nat.reduceAdd, Int.cast_ofNat_Int, Nat.zero_add, List.length_append] at hm2))) | (with_reducible refine sidx_elim ?_; intro m hm1 hm3 h) | (with_reducible refine gd_elim ?_; intro hg h; try (have hg2 := hg.2; have hg := hg.1; (try (simp only [Nat.reduceLeDiff] at hg2)); (try (revert hg2; (with_reducible refine toNat_elim hg ?_); intro hg2 hg4)); try (have hg3 := hg2.2; have hg2 := hg2.1; (try (simp only [Nat.reduceLeDiff] at hg3))))) | fail))
    | ((first | with_reducible refine seqQ_ret (K := (fun st1 n1 => Gh st1 n1 (NextS _ 30000000 _ _ _ _))) ?_ | with_reducible refine seqQ_exit (K := (fun st1 n1 => Gh st1 n1 (NextS _ 30000000 _ _ _ _))) ?_)
       obtain rfl := h.get
       have h := hK3
       (try (simp only [Sum.elim_inl, Sum.elim_inr] at h)))
    | ((first | with_reducible refine seqQ_ret (K := (fun st1 n1 => Gh st1 n1 (MeetA _ 20000000 _ _))) ?_ | with_reducible refine seqQ_exit (K := (fun st1 n1 => Gh st1 n1 (MeetA _ 20000000 _ _))) ?_)
       obtain rfl := h.get
       have h := hK2
       (try (simp only [Sum.elim_inl, Sum.elim_inr] at h)))
    | ((first | with_reducible refine seqQ_ret (K := (fun st1 n1 => Gh st1 n1 (NextS _ 10000000 _ _ _ _))) ?_ | with_reducible refine seqQ_exit (K := (fun st1 n1 => Gh st1 n1 (NextS _ 10000000 _ _ _ _))) ?_)
       obtain rfl := h.get
       have h := hK1
       (try (simp only [Sum.elim_inl, Sum.elim_inr] at h)))
    | (with_reducible refine here_loop (c := (.seq (.region 7 _ _) _)) ?_
       skip
       revert h
       with_reducible refine bind_elimY ?_
       intro o3 h hK3
       refine sw_gh ?_
       refine gh_resSlot 7 ?_
       simp only [List.set_cons_zero, List.set_cons_succ, List.length_nil, List.length_cons, Nat.reduceAdd, Nat.reduceLeDiff, List.take_succ_cons, List.take_of_length_le, List.length_set, List.length_replicate, List.take_length, List.take_nil, List.take_zero, List.drop_nil, List.map_nil, List.map_cons, resSlotP, nameSlotP, Prog.wp, Prog.wp_bind, Prog.bind, Prog.ofO, putSt, lk, Res.s.injEq, Res.r.injEq, reduceCtorEq, Nat.reduceEqDiff, if_true, if_false, resV, resV.go, resV.gol, resGo_dd, dd_length, dd_take, dd_drop, dd_get, List.drop_zero, Rw_length, Rw_take, Rw_drop, Nat.zero_add, Nat.le_refl, true_and, and_true, and_self, nameAll, nameP, outP, outT, cntT, V.lin, D.lin, *]
       refine gh_sw ?_
       refine sw_loop (ι := Nat × (List Int) × Gprog × Int × Int × (List Int) × Int × (List GI2) × Int × Int × Int × Int) 30000000 (by decide) (fun x : Nat × (List Int) × Gprog × Int × Int × (List Int) × Int × (List GI2) × Int × Int × Int × Int => [(.s 0, some (.v (.d (.ptr .bor [.row .bor 3 (Rw (GFunc.cells .bor) x.2.2.1.program.funcs), .row .bor 1 (Rw (cL .bor 1 (cI .i64)) x.2.2.1.h)])))), (.s 1, some (.v (V.int x.2.2.2.1))), (.s 2, some (.v (V.int x.2.2.2.2.1))), (.s 7, some (.v (.d (.row .own 1 (Rw (cI .i64) x.2.2.2.2.2.1))))), (.s 8, some (.v (V.int x.2.2.2.2.2.2.1))), (.s 14, some (.v (.d (.row .bor 2 (Rw GI2.cells x.2.2.2.2.2.2.2.1))))), (.s 15, some (.v (V.int x.2.2.2.2.2.2.2.2.1))), (.s 16, some (.v (V.int x.2.2.2.2.2.2.2.2.2.1))), (.s 28, some (.v (.sl 10000960 1 0 x.2.1.length))), (.s 29, some (.v (V.int x.2.2.2.2.2.2.2.2.2.2.1))), (.s 30, some (.v (V.int x.2.2.2.2.2.2.2.2.2.2.2))), (.r 10000960, some (.o 1 (dd (Rw (cI .i64) x.2.1))))]) (fun x => x.1) (fun x => Yes (impl_prog_preds.l3 x.1 x.2.1 x.2.2.1 x.2.2.2.1 x.2.2.2.2.1 x.2.2.2.2.2.1 x.2.2.2.2.2.2.1 x.2.2.2.2.2.2.2.1 x.2.2.2.2.2.2.2.2.1 x.2.2.2.2.2.2.2.2.2.1 x.2.2.2.2.2.2.2.2.2.2.1 x.2.2.2.2.2.2.2.2.2.2.2) o3) (_, _, _, _, _, _, _, _, _, _, _, _) ?_ h ?_ ?_
       · exact (by simp [slNL, C.inN, V.inN, V.inNs, V.inNss, inNss_dd, inNs_map_d])
       · simp only [SubL, putSt, lk, Res.s.injEq, Res.r.injEq, reduceCtorEq, Nat.reduceEqDiff, if_true, if_false, List.length_set, List.length_replicate]; repeat' (first | apply And.intro | rfl | trivial | (simp only [*]; done))
       rintro ⟨_ | k, a1, a2, a3, a4, a5, a6, a7, a8, a9, a10, a11⟩ h
       · simp only [impl_prog_preds.l3] at h; exact h.none
       simp only [impl_prog_preds.l3] at h
       refine sw_gh ?_
       refine gh_nameSlot 7 ?_
       simp only [List.set_cons_zero, List.set_cons_succ, List.length_nil, List.length_cons, Nat.reduceAdd, Nat.reduceLeDiff, List.take_succ_cons, List.take_of_length_le, List.length_set, List.length_replicate, List.take_length, List.take_nil, List.take_zero, List.drop_nil, List.map_nil, List.map_cons, resSlotP, nameSlotP, Prog.wp, Prog.wp_bind, Prog.bind, Prog.ofO, putSt, lk, Res.s.injEq, Res.r.injEq, reduceCtorEq, Nat.reduceEqDiff, if_true, if_false, resV, resV.go, resV.gol, resGo_dd, dd_length, dd_take, dd_drop, dd_get, List.drop_zero, Rw_length, Rw_take, Rw_drop, Nat.zero_add, Nat.le_refl, true_and, and_true, and_self, nameAll, nameP, outP, outT, cntT, V.lin, D.lin, Nat.reduceAdd]
       refine gh_sw ?_
)
    | (with_reducible refine here_next (N0 := 30000000) ?_
       skip
       refine gh_resSlot 7 ?_
       simp only [List.set_cons_zero, List.set_cons_succ, List.length_nil, List.length_cons, Nat.reduceAdd, Nat.reduceLeDiff, List.take_succ_cons, List.take_of_length_le, List.length_set, List.length_replicate, List.take_length, List.take_nil, List.take_zero, List.drop_nil, List.map_nil, List.map_cons, resSlotP, nameSlotP, Prog.wp, Prog.wp_bind, Prog.bind, Prog.ofO, putSt, lk, Res.s.injEq, Res.r.injEq, reduceCtorEq, Nat.reduceEqDiff, if_true, if_false, resV, resV.go, resV.gol, resGo_dd, dd_length, dd_take, dd_drop, dd_get, List.drop_zero, Rw_length, Rw_take, Rw_drop, Nat.zero_add, Nat.le_refl, true_and, and_true, and_self, nameAll, nameP, outP, outT, cntT, V.lin, D.lin, *]
       refine nexts_to (_, _, _, _, _, _, _, _, _, _, _, _) (by decide) ?_ (Nat.lt_succ_self _) h ?_
       · exact (by simp [slNL, C.inN, V.inN, V.inNs, V.inNss, inNss_dd, inNs_map_d])
       · simp only [SubL, putSt, lk, Res.s.injEq, Res.r.injEq, reduceCtorEq, Nat.reduceEqDiff, if_true, if_false, List.length_set, List.length_replicate]; repeat' (first | apply And.intro | rfl | trivial | (simp only [*]; done)))
    | (with_reducible refine here_join (a := (.block 1 _)) (b := (.region 12 _ _)) ?_
       skip
       revert h
       with_reducible refine bind_elimY ?_
       intro o2 h hK2
       unfold impl_prog_preds.a2 at h
       refine sw_join (ι := Gprog × Int × Int × (List Int) × (List GI2) × Int × Int) 20000000 (fun x : Gprog × Int × Int × (List Int) × (List GI2) × Int × Int => [(.s 0, some (.v (.d (.ptr .bor [.row .bor 3 (Rw (GFunc.cells .bor) x.1.program.funcs), .row .bor 1 (Rw (cL .bor 1 (cI .i64)) x.1.h)])))), (.s 1, some (.v (V.int x.2.1))), (.s 2, some (.v (V.int x.2.2.1))), (.s 7, some (.v (.d (.row .own 1 (Rw (cI .i64) x.2.2.2.1))))), (.s 14, some (.v (.d (.row .bor 2 (Rw GI2.cells x.2.2.2.2.1))))), (.s 15, some (.v (V.int x.2.2.2.2.2.1))), (.s 16, some (.v (V.int x.2.2.2.2.2.2)))]) (fun x => Yes (some (x)) o2) ?_ ?_
       rotate_left
       rintro ⟨b1, b2, b3, b4, b5, b6, b7⟩ h
       obtain rfl := h.get
       have h := hK2
       (try (simp only [Sum.elim_inl, Sum.elim_inr] at h))
       refine sw_gh ?_
       refine gh_nameSlot 7 ?_
       simp only [List.set_cons_zero, List.set_cons_succ, List.length_nil, List.length_cons, Nat.reduceAdd, Nat.reduceLeDiff, List.take_succ_cons, List.take_of_length_le, List.length_set, List.length_replicate, List.take_length, List.take_nil, List.take_zero, List.drop_nil, List.map_nil, List.map_cons, resSlotP, nameSlotP, Prog.wp, Prog.wp_bind, Prog.bind, Prog.ofO, putSt, lk, Res.s.injEq, Res.r.injEq, reduceCtorEq, Nat.reduceEqDiff, if_true, if_false, resV, resV.go, resV.gol, resGo_dd, dd_length, dd_take, dd_drop, dd_get, List.drop_zero, Rw_length, Rw_take, Rw_drop, Nat.zero_add, Nat.le_refl, true_and, and_true, and_self, nameAll, nameP, outP, outT, cntT, V.lin, D.lin, Nat.reduceAdd]
       refine gh_sw ?_
       skip)
    | (with_reducible refine here_meet (N0 := 20000000) ?_
       skip
       refine gh_resSlot 7 ?_
       simp only [List.set_cons_zero, List.set_cons_succ, List.length_nil, List.length_cons, Nat.reduceAdd, Nat.reduceLeDiff, List.take_succ_cons, List.take_of_length_le, List.length_set, List.length_replicate, List.take_length, List.take_nil, List.take_zero, List.drop_nil, List.map_nil, List.map_cons, resSlotP, nameSlotP, Prog.wp, Prog.wp_bind, Prog.bind, Prog.ofO, putSt, lk, Res.s.injEq, Res.r.injEq, reduceCtorEq, Nat.reduceEqDiff, if_true, if_false, resV, resV.go, resV.gol, resGo_dd, dd_length, dd_take, dd_drop, dd_get, List.drop_zero, Rw_length, Rw_take, Rw_drop, Nat.zero_add, Nat.le_refl, true_and, and_true, and_self, nameAll, nameP, outP, outT, cntT, V.lin, D.lin, *]
       refine meet_to (_, _, _, _, _, _, _) (by decide) ?_ h ?_
       · exact (by simp [slNL, C.inN, V.inN, V.inNs, V.inNss, inNss_dd, inNs_map_d])
       · simp only [SubL, putSt, lk, Res.s.injEq, Res.r.injEq, reduceCtorEq, Nat.reduceEqDiff, if_true, if_false, List.length_set, List.length_replicate]; repeat' (first | apply And.intro | rfl | trivial | (simp only [*]; done)))
    | (with_reducible refine here_loop (c := (.seq (.region 3 _ _) _)) ?_
       skip
       revert h
       with_reducible refine bind_elimY ?_
       intro o1 h hK1
       refine sw_gh ?_
       (try (refine gh_nilRow 7 .own 1 ?_ ?_; (focus (simp only [putSt, lk, Res.s.injEq, Res.r.injEq, reduceCtorEq, Nat.reduceEqDiff, if_true, if_false]; done))))
       refine gh_resSlot 7 ?_
       simp only [List.set_cons_zero, List.set_cons_succ, List.length_nil, List.length_cons, Nat.reduceAdd, Nat.reduceLeDiff, List.take_succ_cons, List.take_of_length_le, List.length_set, List.length_replicate, List.take_length, List.take_nil, List.take_zero, List.drop_nil, List.map_nil, List.map_cons, resSlotP, nameSlotP, Prog.wp, Prog.wp_bind, Prog.bind, Prog.ofO, putSt, lk, Res.s.injEq, Res.r.injEq, reduceCtorEq, Nat.reduceEqDiff, if_true, if_false, resV, resV.go, resV.gol, resGo_dd, dd_length, dd_take, dd_drop, dd_get, List.drop_zero, Rw_length, Rw_take, Rw_drop, Nat.zero_add, Nat.le_refl, true_and, and_true, and_self, nameAll, nameP, outP, outT, cntT, V.lin, D.lin, *]
       refine gh_sw ?_
       refine sw_loop (ι := Nat × Gprog × Int × Int × (List Int) × (List GI2) × Int × Int) 10000000 (by decide) (fun x : Nat × Gprog × Int × Int × (List Int) × (List GI2) × Int × Int => [(.s 0, some (.v (.d (.ptr .bor [.row .bor 3 (Rw (GFunc.cells .bor) x.2.1.program.funcs), .row .bor 1 (Rw (cL .bor 1 (cI .i64)) x.2.1.h)])))), (.s 1, some (.v (V.int x.2.2.1))), (.s 2, some (.v (V.int x.2.2.2.1))), (.s 7, some (.v (.d (.row .own 1 (Rw (cI .i64) x.2.2.2.2.1))))), (.s 14, some (.v (.d (.row .bor 2 (Rw GI2.cells x.2.2.2.2.2.1))))), (.s 15, some (.v (V.int x.2.2.2.2.2.2.1))), (.s 16, some (.v (V.int x.2.2.2.2.2.2.2)))]) (fun x => x.1) (fun x => Yes (impl_prog_preds.l1 x.1 x.2.1 x.2.2.1 x.2.2.2.1 x.2.2.2.2.1 x.2.2.2.2.2.1 x.2.2.2.2.2.2.1 x.2.2.2.2.2.2.2) o1) (_, _, _, _, _, _, _, _) ?_ h ?_ ?_
       · exact (by simp [slNL, C.inN, V.inN, V.inNs, V.inNss, inNss_dd, inNs_map_d])
       · simp only [SubL, putSt, lk, Res.s.injEq, Res.r.injEq, reduceCtorEq, Nat.reduceEqDiff, if_true, if_false, List.length_set, List.length_replicate]; repeat' (first | apply And.intro | rfl | trivial | (simp only [*]; done))
       rintro ⟨_ | k, a1, a2, a3, a4, a5, a6, a7⟩ h
       · simp only [impl_prog_preds.l1] at h; exact h.none
       simp only [impl_prog_preds.l1] at h
       refine sw_gh ?_
       refine gh_nameSlot 7 ?_
       simp only [List.set_cons_zero, List.set_cons_succ, List.length_nil, List.length_cons, Nat.reduceAdd, Nat.reduceLeDiff, List.take_succ_cons, List.take_of_length_le, List.length_set, List.length_replicate, List.take_length, List.take_nil, List.take_zero, List.drop_nil, List.map_nil, List.map_cons, resSlotP, nameSlotP, Prog.wp, Prog.wp_bind, Prog.bind, Prog.ofO, putSt, lk, Res.s.injEq, Res.r.injEq, reduceCtorEq, Nat.reduceEqDiff, if_true, if_false, resV, resV.go, resV.gol, resGo_dd, dd_length, dd_take, dd_drop, dd_get, List.drop_zero, Rw_length, Rw_take, Rw_drop, Nat.zero_add, Nat.le_refl, true_and, and_true, and_self, nameAll, nameP, outP, outT, cntT, V.lin, D.lin, Nat.reduceAdd]
       refine gh_sw ?_
)
    | (with_reducible refine here_next (N0 := 10000000) ?_
       skip
       (try (refine gh_nilRow 7 .own 1 ?_ ?_; (focus (simp only [putSt, lk, Res.s.injEq, Res.r.injEq, reduceCtorEq, Nat.reduceEqDiff, if_true, if_false]; done))))
       refine gh_resSlot 7 ?_
       simp only [List.set_cons_zero, List.set_cons_succ, List.length_nil, List.length_cons, Nat.reduceAdd, Nat.reduceLeDiff, List.take_succ_cons, List.take_of_length_le, List.length_set, List.length_replicate, List.take_length, List.take_nil, List.take_zero, List.drop_nil, List.map_nil, List.map_cons, resSlotP, nameSlotP, Prog.wp, Prog.wp_bind, Prog.bind, Prog.ofO, putSt, lk, Res.s.injEq, Res.r.injEq, reduceCtorEq, Nat.reduceEqDiff, if_true, if_false, resV, resV.go, resV.gol, resGo_dd, dd_length, dd_take, dd_drop, dd_get, List.drop_zero, Rw_length, Rw_take, Rw_drop, Nat.zero_add, Nat.le_refl, true_and, and_true, and_self, nameAll, nameP, outP, outT, cntT, V.lin, D.lin, *]
       refine nexts_to (_, _, _, _, _, _, _, _) (by decide) ?_ (Nat.lt_succ_self _) h ?_
       · exact (by simp [slNL, C.inN, V.inN, V.inNs, V.inNss, inNss_dd, inNs_map_d])
       · simp only [SubL, putSt, lk, Res.s.injEq, Res.r.injEq, reduceCtorEq, Nat.reduceEqDiff, if_true, if_false, List.length_set, List.length_replicate]; repeat' (first | apply And.intro | rfl | trivial | (simp only [*]; done)))
    | with_reducible refine sw_seq ?_
    | with_reducible refine seqQ_ret ?_
    | with_reducible refine seqQ_exit ?_
    | (with_reducible refine gh_nilRow 6 .own 1 ?_ ?_
       · simp only [putSt, lk, Res.s.injEq, Res.r.injEq, reduceCtorEq, Nat.reduceEqDiff, if_true, if_false]; done
       skip)
    | ((with_reducible refine wp_ite ?_ ?_)
       all_goals (intro hc; (try (simp only [Bool.not_eq_true, Bool.not_eq_false] at hc)); (try (revert h; first | (with_reducible refine condt_elim hc ?_; intro h) | (with_reducible refine condf_elim hc ?_; intro h) | fail)); simp only [hc]))
    | (with_reducible apply regW_skip
       · simp only [dstOk, Nat.reduceLT]
       · rfl
       · simp only [putSt, lk, Res.s.injEq, Res.r.injEq, reduceCtorEq, Nat.reduceEqDiff, if_true, if_false]; done)
    | (with_reducible apply regW_yesN
       · simp only [dstOk, Nat.reduceLT]
       · rfl
       · simp only [putSt, lk, Res.s.injEq, Res.r.injEq, reduceCtorEq, Nat.reduceEqDiff, if_true, if_false]; done)
    | (with_reducible apply regW_no
       · simp only [dstOk, Nat.reduceLT]
       · rfl
       · simp only [putSt, lk, Res.s.injEq, Res.r.injEq, reduceCtorEq, Nat.reduceEqDiff, if_true, if_false, Bool.not_true, Bool.not_false]; done)
    | (with_reducible apply regW_guardN
       · simp only [dstOk, Nat.reduceLT]
       · rfl
       · simp only [putSt, lk, Res.s.injEq, Res.r.injEq, reduceCtorEq, Nat.reduceEqDiff, if_true, if_false]; rfl
       all_goals (intro hc; (try (simp only [Bool.not_true, Bool.not_false] at hc)); (try (revert h; first | (with_reducible refine condt_elim hc ?_; intro h) | (with_reducible refine condf_elim hc ?_; intro h) | fail))))
    | ((with_reducible apply sw_cond
        · simp only [putSt, lk, Res.s.injEq, Res.r.injEq, reduceCtorEq, Nat.reduceEqDiff, if_true, if_false]; rfl
        all_goals (intro hc; try (cases hc; done)))
       all_goals (try (revert h; first | (with_reducible refine condt_elim hc ?_; intro h) | (with_reducible refine condf_elim hc ?_; intro h) | fail)))
    | ((first
        | ((with_reducible refine gh_ret ?_)
           revert h
           with_reducible refine some_elim ?_
           rintro rfl)
        | (with_reducible refine here_call ?_
           revert h
           with_reducible refine bind_elim ?_
           intro t ht h
           (first
             | (refine call_dataE (c_impl_prog_code ht) ?_ rfl ?_
                · first | rfl | (simp; done))
             | (refine call_dataE (c_impl_prog_reached ht) ?_ rfl ?_
                · first | rfl | (simp; done))
             | (refine call_dataE (c_impl_next ht) ?_ rfl ?_
                · first | rfl | (simp; done))))
        | (with_reducible apply regD_opK
           · simp only [dstOk, Nat.reduceLT]
           · simp only [Nat.reduceAdd]; rfl
           intro k hk)
        | (with_reducible apply regW_opK
           · simp only [dstOk, Nat.reduceLT]
           · simp only [Nat.reduceAdd]; rfl
           intro k hk)
        | skip)
       simp only [RetW, bn, opC, opP, fetchN, fetchP, fetchAll, fetchO, Prog.bind, Prog.wp, Prog.wp_bind, lk, nameP, nameAll, Value.oneCell', putSt, stepP, putP, Res.s.injEq, Res.r.injEq, reduceCtorEq, V.lin, V.linL, D.lin, isNil, binP, unP, BinOp.isShift, Prog.ofO, true_and, and_true, Nat.reduceAdd, Nat.reduceMul, Nat.reduceSub, Nat.reduceLT, Nat.reduceLeDiff, Nat.reduceEqDiff, if_true, if_false, ite_true, ite_false, Bool.false_eq_true, Bool.not_true, Bool.not_false, Bool.or_false, Bool.or_true, fieldAddrP, fieldP, indexAddrP, loadP, storeP, boxP, allocP, cellsP, asVal, setSeg, outP, outT, cntT, TyK.field, TyK.agg, zeroRow, V.ren, V.renL, forall_eq_or_imp, implies_true, false_implies, forall_const, and_self, true_or, minmaxP, lenP, lenOf, lenStr, V.asInt, decide_true, decide_false, sliceP, boundP, makeSliceP, convertP, appendP, rowsOfP, ontoP, sizeFits, V.rowSize, TyK.src, resV, resV.go, resV.gol, retP, retOne, retAll, resTo, objsAre, Option.map_eq_map, Function.const_apply, Int.reduceNeg, Int.reduceToNat, ty2, ty3, ty4, ty26, ty28, ty30, ty53, ty63, ty65, ty68, ty107, ty122, GFunc.cells, GI2.cells, GProgram.cells, Gprog.cells, cI, cB, cS, cL, GI2_e, GFunc_e, GProgram_e, Gprog_e, LcIi64_e, LGI2_e, buildP, buildSliceP, putParts, structPlaces, chunks, List.replicate, List.flatten_nil, List.flatten_cons, Option.bind_some, bb, GI2_b, GFunc_b, GProgram_b, Gprog_b, LcIi64_b, LGI2_b, nilEqP, ne_eq, not_false_eq_true, not_true_eq_false, *]
       try (refine hk.use _ _ _ _ ?_; clear hk k))
    | fail)
  all_goals (try rfl)
  all_goals (try (simp; done))
  all_goals (try (simp_all; done))

end Go.Proofs.Ytdlaplgofgklnaa
namespace Go.Proofs.Ytdlaplgofgklnaa
open Go.Proofs Go.Proofs.Ytdlaplgofgklnaa.L
set_option maxHeartbeats 1000000
set_option linter.unusedSimpArgs false
set_option linter.unusedVariables false
set_option maxRecDepth 100000

def impl_Preds (k : Nat) (p0 : GProgram) (p1 : Int) (p2 : Int) : Option ((List Int)) :=
  (impl_knownFunc k p0 p1).bind fun t1 => cond ((!t1.2)) (some []) ((impl_prog_place t1.1 p1 p2).bind fun t2 => cond ((!t2)) (some []) ((impl_prog_preds k t1.1 p1 p2).bind fun t3 => some t3))

end Go.Proofs.Ytdlaplgofgklnaa
namespace Go.Proofs.Ytdlaplgofgklnaa
open Go.Proofs Go.Proofs.Ytdlaplgofgklnaa.L
set_option maxHeartbeats 1000000
set_option linter.unusedSimpArgs false
set_option linter.unusedVariables false
set_option maxRecDepth 100000

def laws_eqInt64S.l1 : Nat → (List Int) → (List Int) → Int → Option ((Bool) ⊕ (Unit))
  | 0, _, _, _ => none
  | k + 1, a1, a2, a3 => cond ((decide (a3 < ((a1.length : Int))))) ((idx a1 a3).bind fun m1 => (idx a2 a3).bind fun m2 => cond ((m1 != m2)) (some (.inl (false))) (laws_eqInt64S.l1 k a1 a2 ((IntKind.i64.wrap (a3 + 1))))) (some (.inr ()))

def laws_eqInt64S (k : Nat) (p0 : (List Int)) (p1 : (List Int)) : Option (Bool) :=
  cond ((((p0.length : Int)) != ((p1.length : Int)))) (some false) ((laws_eqInt64S.l1 k p0 p1 0).bind fun o1 => Sum.elim (fun o1l => some o1l) (fun o1r => some true) o1)

end Go.Proofs.Ytdlaplgofgklnaa
namespace Go.Proofs.Ytdlaplgofgklnaa
open Go.Proofs Go.Proofs.Ytdlaplgofgklnaa.L
set_option maxHeartbeats 1000000
set_option linter.unusedSimpArgs false
set_option linter.unusedVariables false
set_option maxRecDepth 100000

def laws_eqIns (p0 : GI2) (p1 : GI2) : Option (Bool) :=
  cond ((p0.a != p1.a)) (some false) (cond ((p0.b != p1.b)) (some false) (some true))

theorem c_laws_eqIns {p0 : GI2} {p1 : GI2} {r : Bool} (h : laws_eqIns p0 p1 = some r) : Con Try.prog 112 [.agg [V.int p0.a, V.int p0.b], .agg [V.int p1.a, V.int p1.b]] [] (V.bool r) [] := by
  refine con_of_sw Try.func112 rfl Try.call112 (by simp [Try.ntmps112]) (by simp [V.inNs, V.inN]) (by simp [C.inN, V.inNss, V.inNs, V.inN, inNss_dd]) (by simp [V.inNs, V.inN]) (by simp [C.inN, V.inNss, V.inNs, V.inN, inNss_dd]) rfl ?_
  rw [Try.ntmps112, Try.results112]
  unfold laws_eqIns at h
  replace h := Yes.mk h
  simp only [entryS, entryO, Nat.reduceAdd, List.length_nil, List.length_cons]
  repeat' (first
    | with_reducible refine sw_reg ?_
    | with_reducible refine sw_ret ?_
    | with_reducible refine sw_skip ?_
    | with_reducible refine sw_block ?_
    | with_reducible refine sw_exit ?_
    | with_reducible refine seqQ_normal ?_
    | with_reducible refine blockQ_normal ?_
    | with_reducible refine blockQ_ret ?_
    | with_reducible refine blockQ_this ?_
    | with_reducible refine blockQ_other (by decide) ?_
    | with_reducible refine regW_nil ?_
    | with_reducible refine sw_draw mixed ?_
    | (with_reducible refine regD_nil ?_
       refine ⟨by kernel_rfl, ?_⟩)
    | with_reducible refine retQ_ret ?_
    | with_reducible refine retQ_normal ?_
    | (revert h; (first | ((with_reducible refine idx_elim ?_); intro m hm1 hm2 hm3 h; (try (simp only [Int.reduceToNat] at hm3)); (try (revert hm3; (with_reducible apply same_elim); (focus (with_reducible assumption)); rintro rfl)); (try (simp only [List.length_set, List.length_cons, List.length_nil, List.length_replicate, Nat.reduceAdd, Int.cast_ofNat_Int, Nat.zero_add, List.length_append] at hm2))) | (with_reducible refine sidx_elim ?_; intro m hm1 hm3 h) | (with_reducible refine gd_elim ?_; intro hg h; try (have hg2 := hg.2; have hg := hg.1; (try (simp only [Nat.reduceLeDiff] at hg2)); (try (revert hg2; (with_reducible refine toNat_elim hg ?_); intro hg2 hg4)); try (have hg3 := hg2.2; have hg2 := hg2.1; (try (simp only [Nat.reduceLeDiff] at hg3))))) | fail))
    | with_reducible refine sw_seq ?_
    | with_reducible refine seqQ_ret ?_
    | with_reducible refine seqQ_exit ?_
    | ((with_reducible refine wp_ite ?_ ?_)
       all_goals (intro hc; (try (simp only [Bool.not_eq_true, Bool.not_eq_false] at hc)); (try (revert h; first | (with_reducible refine condt_elim hc ?_; intro h) | (with_reducible refine condf_elim hc ?_; intro h) | fail)); simp only [hc]))
    | (with_reducible apply regW_skip
       · simp only [dstOk, Nat.reduceLT]
       · rfl
       · simp only [putSt, lk, Res.s.injEq, Res.r.injEq, reduceCtorEq, Nat.reduceEqDiff, if_true, if_false]; done)
    | (with_reducible apply regW_yesN
       · simp only [dstOk, Nat.reduceLT]
       · rfl
       · simp only [putSt, lk, Res.s.injEq, Res.r.injEq, reduceCtorEq, Nat.reduceEqDiff, if_true, if_false]; done)
    | (with_reducible apply regW_no
       · simp only [dstOk, Nat.reduceLT]
       · rfl
       · simp only [putSt, lk, Res.s.injEq, Res.r.injEq, reduceCtorEq, Nat.reduceEqDiff, if_true, if_false, Bool.not_true, Bool.not_false]; done)
    | (with_reducible apply regW_guardN
       · simp only [dstOk, Nat.reduceLT]
       · rfl
       · simp only [putSt, lk, Res.s.injEq, Res.r.injEq, reduceCtorEq, Nat.reduceEqDiff, if_true, if_false]; rfl
       all_goals (intro hc; (try (simp only [Bool.not_true, Bool.not_false] at hc)); (try (revert h; first | (with_reducible refine condt_elim hc ?_; intro h) | (with_reducible refine condf_elim hc ?_; intro h) | fail))))
    | ((with_reducible apply sw_cond
        · simp only [putSt, lk, Res.s.injEq, Res.r.injEq, reduceCtorEq, Nat.reduceEqDiff, if_true, if_false]; rfl
        all_goals (intro hc; try (cases hc; done)))
       all_goals (try (revert h; first | (with_reducible refine condt_elim hc ?_; intro h) | (with_reducible refine condf_elim hc ?_; intro h) | fail)))
    | ((first
        | ((with_reducible refine gh_ret ?_)
           revert h
           with_reducible refine some_elim ?_
           rintro rfl)
        | (with_reducible apply regD_opK
           · simp only [dstOk, Nat.reduceLT]
           · simp only [Nat.reduceAdd]; rfl
           intro k hk)
        | (with_reducible apply regW_opK
           · simp only [dstOk, Nat.reduceLT]
           · simp only [Nat.reduceAdd]; rfl
           intro k hk)
        | skip)
       simp only [RetW, bn, opC, opP, fetchN, fetchP, fetchAll, fetchO, Prog.bind, Prog.wp, Prog.wp_bind, lk, nameP, nameAll, Value.oneCell', putSt, stepP, putP, Res.s.injEq, Res.r.injEq, reduceCtorEq, V.lin, V.linL, D.lin, isNil, binP, unP, BinOp.isShift, Prog.ofO, true_and, and_true, Nat.reduceAdd, Nat.reduceMul, Nat.reduceSub, Nat.reduceLT, Nat.reduceLeDiff, Nat.reduceEqDiff, if_true, if_false, ite_true, ite_false, Bool.false_eq_true, Bool.not_true, Bool.not_false, Bool.or_false, Bool.or_true, fieldAddrP, fieldP, indexAddrP, loadP, storeP, boxP, allocP, cellsP, asVal, setSeg, outP, outT, cntT, TyK.field, TyK.agg, zeroRow, V.ren, V.renL, forall_eq_or_imp, implies_true, false_implies, forall_const, and_self, true_or, minmaxP, lenP, lenOf, lenStr, V.asInt, decide_true, decide_false, sliceP, boundP, makeSliceP, convertP, appendP, rowsOfP, ontoP, sizeFits, V.rowSize, TyK.src, resV, resV.go, resV.gol, retP, retOne, retAll, resTo, objsAre, Option.map_eq_map, Function.const_apply, Int.reduceNeg, Int.reduceToNat, ty2, ty4, ty107, GI2.cells, cI, cB, cS, cL, GI2_e, *]
       try (refine hk.use _ _ _ _ ?_; clear hk k))
    | fail)
  all_goals (try rfl)
  all_goals (try (simp; done))
  all_goals (try (simp_all; done))

end Go.Proofs.Ytdlaplgofgklnaa
namespace Go.Proofs.Ytdlaplgofgklnaa
open Go.Proofs Go.Proofs.Ytdlaplgofgklnaa.L
set_option maxHeartbeats 1000000
set_option linter.unusedSimpArgs false
set_option linter.unusedVariables false
set_option maxRecDepth 100000

def laws_eqInsS.l1 : Nat → (List GI2) → (List GI2) → Int → Option ((Bool) ⊕ (Unit))
  | 0, _, _, _ => none
  | k + 1, a1, a2, a3 => cond ((decide (a3 < ((a1.length : Int))))) ((idx a1 a3).bind fun m1 => (idx a2 a3).bind fun m2 => (laws_eqIns m1 m2).bind fun t3 => cond ((!t3)) (some (.inl (false))) (laws_eqInsS.l1 k a1 a2 ((IntKind.i64.wrap (a3 + 1))))) (some (.inr ()))

def laws_eqInsS (k : Nat) (p0 : (List GI2)) (p1 : (List GI2)) : Option (Bool) :=
  cond ((((p0.length : Int)) != ((p1.length : Int)))) (some false) ((laws_eqInsS.l1 k p0 p1 0).bind fun o1 => Sum.elim (fun o1l => some o1l) (fun o1r => some true) o1)

theorem c_laws_eqInsS {k : Nat} {p0 : (List GI2)} {p1 : (List GI2)} {r : Bool} (h : laws_eqInsS k p0 p1 = some r) : Con Try.prog 94 [.d (.row .bor 2 (Rw GI2.cells p0)), .d (.row .bor 2 (Rw GI2.cells p1))] [] (V.bool r) [] := by
  refine con_of_sw Try.func94 rfl Try.call94 (by simp [Try.ntmps94]) (by simp [V.inNs, V.inN]) (by simp [C.inN, V.inNss, V.inNs, V.inN, inNss_dd]) (by simp [V.inNs, V.inN]) (by simp [C.inN, V.inNss, V.inNs, V.inN, inNss_dd]) rfl ?_
  rw [Try.ntmps94, Try.results94]
  unfold laws_eqInsS at h
  replace h := Yes.mk h
  simp only [entryS, entryO, Nat.reduceAdd, List.length_nil, List.length_cons]
  repeat' (first
    | with_reducible refine sw_reg ?_
    | with_reducible refine sw_ret ?_
    | with_reducible refine sw_skip ?_
    | with_reducible refine sw_block ?_
    | with_reducible refine sw_exit ?_
    | with_reducible refine seqQ_normal ?_
    | with_reducible refine blockQ_normal ?_
    | with_reducible refine blockQ_ret ?_
    | with_reducible refine blockQ_this ?_
    | with_reducible refine blockQ_other (by decide) ?_
    | with_reducible refine regW_nil ?_
    | with_reducible refine sw_draw mixed ?_
    | (with_reducible refine regD_nil ?_
       refine ⟨by kernel_rfl, ?_⟩)
    | with_reducible refine retQ_ret ?_
    | with_reducible refine retQ_normal ?_
    | (revert h; (first | ((with_reducible refine idx_elim ?_); intro m hm1 hm2 hm3 h; (try (simp only [Int.reduceToNat] at hm3)); (try (revert hm3; (with_reducible apply same_elim); (focus (with_reducible assumption)); rintro rfl)); (try (simp only [List.length_set, List.length_cons, List.length_nil, List.length_replicate, Nat.reduceAdd, Int.cast_ofNat_Int, Nat.zero_add, List.length_append] at hm2))) | (with_reducible refine sidx_elim ?_; intro m hm1 hm3 h) | (with_reducible refine gd_elim ?_; intro hg h; try (have hg2 := hg.2; have hg := hg.1; (try (simp only [Nat.reduceLeDiff] at hg2)); (try (revert hg2; (with_reducible refine toNat_elim hg ?_); intro hg2 hg4)); try (have hg3 := hg2.2; have hg2 := hg2.1; (try (simp only [Nat.reduceLeDiff] at hg3))))) | fail))
    | ((first | with_reducible refine seqQ_ret (K := (fun st1 n1 => Gh st1 n1 (NextS _ 10000000 _ _ _ _))) ?_ | with_reducible refine seqQ_exit (K := (fun st1 n1 => Gh st1 n1 (NextS _ 10000000 _ _ _ _))) ?_)
       obtain rfl := h.get
       have h := hK1
       (try (simp only [Sum.elim_inl, Sum.elim_inr] at h)))
    | (with_reducible refine here_loop (c := (.seq (.seq (.region 4 _ _) _) _)) ?_
       skip
       revert h
       with_reducible refine bind_elimY ?_
       intro o1 h hK1
       refine sw_loop (ι := Nat × (List GI2) × (List GI2) × Int) 10000000 (by decide) (fun x : Nat × (List GI2) × (List GI2) × Int => [(.s 0, some (.v (.d (.row .bor 2 (Rw GI2.cells x.2.1))))), (.s 1, some (.v (.d (.row .bor 2 (Rw GI2.cells x.2.2.1))))), (.s 5, some (.v (V.int x.2.2.2)))]) (fun x => x.1) (fun x => Yes (laws_eqInsS.l1 x.1 x.2.1 x.2.2.1 x.2.2.2) o1) (_, _, _, _) ?_ h ?_ ?_
       · exact (by simp [slNL, C.inN, V.inN, V.inNs, V.inNss, inNss_dd, inNs_map_d])
       · simp only [SubL, putSt, lk, Res.s.injEq, Res.r.injEq, reduceCtorEq, Nat.reduceEqDiff, if_true, if_false, List.length_set, List.length_replicate]; repeat' (first | apply And.intro | rfl | trivial | (simp only [*]; done))
       rintro ⟨_ | k, a1, a2, a3⟩ h
       · simp only [laws_eqInsS.l1] at h; exact h.none
       simp only [laws_eqInsS.l1] at h
)
    | (with_reducible refine here_next (N0 := 10000000) ?_
       skip
       refine nexts_to (_, _, _, _) (by decide) ?_ (Nat.lt_succ_self _) h ?_
       · exact (by simp [slNL, C.inN, V.inN, V.inNs, V.inNss, inNss_dd, inNs_map_d])
       · simp only [SubL, putSt, lk, Res.s.injEq, Res.r.injEq, reduceCtorEq, Nat.reduceEqDiff, if_true, if_false, List.length_set, List.length_replicate]; repeat' (first | apply And.intro | rfl | trivial | (simp only [*]; done)))
    | with_reducible refine sw_seq ?_
    | with_reducible refine seqQ_ret ?_
    | with_reducible refine seqQ_exit ?_
    | ((with_reducible refine wp_ite ?_ ?_)
       all_goals (intro hc; (try (simp only [Bool.not_eq_true, Bool.not_eq_false] at hc)); (try (revert h; first | (with_reducible refine condt_elim hc ?_; intro h) | (with_reducible refine condf_elim hc ?_; intro h) | fail)); simp only [hc]))
    | (with_reducible apply regW_skip
       · simp only [dstOk, Nat.reduceLT]
       · rfl
       · simp only [putSt, lk, Res.s.injEq, Res.r.injEq, reduceCtorEq, Nat.reduceEqDiff, if_true, if_false]; done)
    | (with_reducible apply regW_yesN
       · simp only [dstOk, Nat.reduceLT]
       · rfl
       · simp only [putSt, lk, Res.s.injEq, Res.r.injEq, reduceCtorEq, Nat.reduceEqDiff, if_true, if_false]; done)
    | (with_reducible apply regW_no
       · simp only [dstOk, Nat.reduceLT]
       · rfl
       · simp only [putSt, lk, Res.s.injEq, Res.r.injEq, reduceCtorEq, Nat.reduceEqDiff, if_true, if_false, Bool.not_true, Bool.not_false]; done)
    | (with_reducible apply regW_guardN
       · simp only [dstOk, Nat.reduceLT]
       · rfl
       · simp only [putSt, lk, Res.s.injEq, Res.r.injEq, reduceCtorEq, Nat.reduceEqDiff, if_true, if_false]; rfl
       all_goals (intro hc; (try (simp only [Bool.not_true, Bool.not_false] at hc)); (try (revert h; first | (with_reducible refine condt_elim hc ?_; intro h) | (with_reducible refine condf_elim hc ?_; intro h) | fail))))
    | ((with_reducible apply sw_cond
        · simp only [putSt, lk, Res.s.injEq, Res.r.injEq, reduceCtorEq, Nat.reduceEqDiff, if_true, if_false]; rfl
        all_goals (intro hc; try (cases hc; done)))
       all_goals (try (revert h; first | (with_reducible refine condt_elim hc ?_; intro h) | (with_reducible refine condf_elim hc ?_; intro h) | fail)))
    | ((first
        | ((with_reducible refine gh_ret ?_)
           revert h
           with_reducible refine some_elim ?_
           rintro rfl)
        | (with_reducible refine here_call ?_
           revert h
           with_reducible refine bind_elim ?_
           intro t ht h
           (first
             | (refine call_dataE (c_laws_eqIns ht) ?_ rfl ?_
                · first | rfl | (simp; done))))
        | (with_reducible apply regD_opK
           · simp only [dstOk, Nat.reduceLT]
           · simp only [Nat.reduceAdd]; rfl
           intro k hk)
        | (with_reducible apply regW_opK
           · simp only [dstOk, Nat.reduceLT]
           · simp only [Nat.reduceAdd]; rfl
           intro k hk)
        | skip)
       simp only [RetW, bn, opC, opP, fetchN, fetchP, fetchAll, fetchO, Prog.bind, Prog.wp, Prog.wp_bind, lk, nameP, nameAll, Value.oneCell', putSt, stepP, putP, Res.s.injEq, Res.r.injEq, reduceCtorEq, V.lin, V.linL, D.lin, isNil, binP, unP, BinOp.isShift, Prog.ofO, true_and, and_true, Nat.reduceAdd, Nat.reduceMul, Nat.reduceSub, Nat.reduceLT, Nat.reduceLeDiff, Nat.reduceEqDiff, if_true, if_false, ite_true, ite_false, Bool.false_eq_true, Bool.not_true, Bool.not_false, Bool.or_false, Bool.or_true, fieldAddrP, fieldP, indexAddrP, loadP, storeP, boxP, allocP, cellsP, asVal, setSeg, outP, outT, cntT, TyK.field, TyK.agg, zeroRow, V.ren, V.renL, forall_eq_or_imp, implies_true, false_implies, forall_const, and_self, true_or, minmaxP, lenP, lenOf, lenStr, V.asInt, decide_true, decide_false, sliceP, boundP, makeSliceP, convertP, appendP, rowsOfP, ontoP, sizeFits, V.rowSize, TyK.src, resV, resV.go, resV.gol, retP, retOne, retAll, resTo, objsAre, Option.map_eq_map, Function.const_apply, Int.reduceNeg, Int.reduceToNat, ty2, ty3, ty4, ty63, ty107, GI2.cells, cI, cB, cS, cL, GI2_e, LGI2_e, *]
       try (refine hk.use _ _ _ _ ?_; clear hk k))
    | fail)
  all_goals (try rfl)
  all_goals (try (simp; done))
  all_goals (try (simp_all; done))

end Go.Proofs.Ytdlaplgofgklnaa
namespace Go.Proofs.Ytdlaplgofgklnaa
open Go.Proofs Go.Proofs.Ytdlaplgofgklnaa.L
set_option maxHeartbeats 1000000
set_option linter.unusedSimpArgs false
set_option linter.unusedVariables false
set_option maxRecDepth 100000

def laws_eqFunc (k : Nat) (p0 : GFunc) (p1 : GFunc) : Option (Bool) :=
  cond ((p0.args != p1.args)) (some false) (cond ((p0.locals != p1.locals)) (some false) ((laws_eqInsS k p0.code p1.code).bind fun t1 => cond ((!t1)) (some false) (some true)))

theorem c_laws_eqFunc {k : Nat} {p0 : GFunc} {p1 : GFunc} {r : Bool} (h : laws_eqFunc k p0 p1 = some r) : Con Try.prog 74 [.agg [V.int p0.args, V.int p0.locals, .d (.row .bor 2 (Rw GI2.cells p0.code))], .agg [V.int p1.args, V.int p1.locals, .d (.row .bor 2 (Rw GI2.cells p1.code))]] [] (V.bool r) [] := by
  refine con_of_sw Try.func74 rfl Try.call74 (by simp [Try.ntmps74]) (by simp [V.inNs, V.inN]) (by simp [C.inN, V.inNss, V.inNs, V.inN, inNss_dd]) (by simp [V.inNs, V.inN]) (by simp [C.inN, V.inNss, V.inNs, V.inN, inNss_dd]) rfl ?_
  rw [Try.ntmps74, Try.results74]
  unfold laws_eqFunc at h
  replace h := Yes.mk h
  simp only [entryS, entryO, Nat.reduceAdd, List.length_nil, List.length_cons]
  repeat' (first
    | with_reducible refine sw_reg ?_
    | with_reducible refine sw_ret ?_
    | with_reducible refine sw_skip ?_
    | with_reducible refine sw_block ?_
    | with_reducible refine sw_exit ?_
    | with_reducible refine seqQ_normal ?_
    | with_reducible refine blockQ_normal ?_
    | with_reducible refine blockQ_ret ?_
    | with_reducible refine blockQ_this ?_
    | with_reducible refine blockQ_other (by decide) ?_
    | with_reducible refine regW_nil ?_
    | with_reducible refine sw_draw mixed ?_
    | (with_reducible refine regD_nil ?_
       refine ⟨by kernel_rfl, ?_⟩)
    | with_reducible refine retQ_ret ?_
    | with_reducible refine retQ_normal ?_
    | (revert h; (first | ((with_reducible refine idx_elim ?_); intro m hm1 hm2 hm3 h; (try (simp only [Int.reduceToNat] at hm3)); (try (revert hm3; (with_reducible apply same_elim); (focus (with_reducible assumption)); rintro rfl)); (try (simp only [List.length_set, List.length_cons, List.length_nil, List.length_replicate, Nat.reduceAdd, Int.cast_ofNat_Int, Nat.zero_add, List.length_append] at hm2))) | (with_reducible refine sidx_elim ?_; intro m hm1 hm3 h) | (with_reducible refine gd_elim ?_; intro hg h; try (have hg2 := hg.2; have hg := hg.1; (try (simp only [Nat.reduceLeDiff] at hg2)); (try (revert hg2; (with_reducible refine toNat_elim hg ?_); intro hg2 hg4)); try (have hg3 := hg2.2; have hg2 := hg2.1; (try (simp only [Nat.reduceLeDiff] at hg3))))) | fail))
    | with_reducible refine sw_seq ?_
    | with_reducible refine seqQ_ret ?_
    | with_reducible refine seqQ_exit ?_
    | ((with_reducible refine wp_ite ?_ ?_)
       all_goals (intro hc; (try (simp only [Bool.not_eq_true, Bool.not_eq_false] at hc)); (try (revert h; first | (with_reducible refine condt_elim hc ?_; intro h) | (with_reducible refine condf_elim hc ?_; intro h) | fail)); simp only [hc]))
    | (with_reducible apply regW_skip
       · simp only [dstOk, Nat.reduceLT]
       · rfl
       · simp only [putSt, lk, Res.s.injEq, Res.r.injEq, reduceCtorEq, Nat.reduceEqDiff, if_true, if_false]; done)
    | (with_reducible apply regW_yesN
       · simp only [dstOk, Nat.reduceLT]
       · rfl
       · simp only [putSt, lk, Res.s.injEq, Res.r.injEq, reduceCtorEq, Nat.reduceEqDiff, if_true, if_false]; done)
    | (with_reducible apply regW_no
       · simp only [dstOk, Nat.reduceLT]
       · rfl
       · simp only [putSt, lk, Res.s.injEq, Res.r.injEq, reduceCtorEq, Nat.reduceEqDiff, if_true, if_false, Bool.not_true, Bool.not_false]; done)
    | (with_reducible apply regW_guardN
       · simp only [dstOk, Nat.reduceLT]
       · rfl
       · simp only [putSt, lk, Res.s.injEq, Res.r.injEq, reduceCtorEq, Nat.reduceEqDiff, if_true, if_false]; rfl
       all_goals (intro hc; (try (simp only [Bool.not_true, Bool.not_false] at hc)); (try (revert h; first | (with_reducible refine condt_elim hc ?_; intro h) | (with_reducible refine condf_elim hc ?_; intro h) | fail))))
    | ((with_reducible apply sw_cond
        · simp only [putSt, lk, Res.s.injEq, Res.r.injEq, reduceCtorEq, Nat.reduceEqDiff, if_true, if_false]; rfl
        all_goals (intro hc; try (cases hc; done)))
       all_goals (try (revert h; first | (with_reducible refine condt_elim hc ?_; intro h) | (with_reducible refine condf_elim hc ?_; intro h) | fail)))
    | ((first
        | ((with_reducible refine gh_ret ?_)
           revert h
           with_reducible refine some_elim ?_
           rintro rfl)
        | (with_reducible refine here_call ?_
           revert h
           with_reducible refine bind_elim ?_
           intro t ht h
           (first
             | (refine call_dataE (c_laws_eqInsS ht) ?_ rfl ?_
                · first | rfl | (simp; done))))
        | (with_reducible apply regD_opK
           · simp only [dstOk, Nat.reduceLT]
           · simp only [Nat.reduceAdd]; rfl
           intro k hk)
        | (with_reducible apply regW_opK
           · simp only [dstOk, Nat.reduceLT]
           · simp only [Nat.reduceAdd]; rfl
           intro k hk)
        | skip)
       simp only [RetW, bn, opC, opP, fetchN, fetchP, fetchAll, fetchO, Prog.bind, Prog.wp, Prog.wp_bind, lk, nameP, nameAll, Value.oneCell', putSt, stepP, putP, Res.s.injEq, Res.r.injEq, reduceCtorEq, V.lin, V.linL, D.lin, isNil, binP, unP, BinOp.isShift, Prog.ofO, true_and, and_true, Nat.reduceAdd, Nat.reduceMul, Nat.reduceSub, Nat.reduceLT, Nat.reduceLeDiff, Nat.reduceEqDiff, if_true, if_false, ite_true, ite_false, Bool.false_eq_true, Bool.not_true, Bool.not_false, Bool.or_false, Bool.or_true, fieldAddrP, fieldP, indexAddrP, loadP, storeP, boxP, allocP, cellsP, asVal, setSeg, outP, outT, cntT, TyK.field, TyK.agg, zeroRow, V.ren, V.renL, forall_eq_or_imp, implies_true, false_implies, forall_const, and_self, true_or, minmaxP, lenP, lenOf, lenStr, V.asInt, decide_true, decide_false, sliceP, boundP, makeSliceP, convertP, appendP, rowsOfP, ontoP, sizeFits, V.rowSize, TyK.src, resV, resV.go, resV.gol, retP, retOne, retAll, resTo, objsAre, Option.map_eq_map, Function.const_apply, Int.reduceNeg, Int.reduceToNat, ty2, ty4, ty63, ty65, ty107, GFunc.cells, GI2.cells, cI, cB, cS, cL, GI2_e, GFunc_e, LGI2_e, *]
       try (refine hk.use _ _ _ _ ?_; clear hk k))
    | fail)
  all_goals (try rfl)
  all_goals (try (simp; done))
  all_goals (try (simp_all; done))

end Go.Proofs.Ytdlaplgofgklnaa
namespace Go.Proofs.Ytdlaplgofgklnaa
open Go.Proofs Go.Proofs.Ytdlaplgofgklnaa.L
set_option maxHeartbeats 1000000
set_option linter.unusedSimpArgs false
set_option linter.unusedVariables false
set_option maxRecDepth 100000

def laws_eqFuncS.l1 : Nat → (List GFunc) → (List GFunc) → Int → Option ((Bool) ⊕ (Unit))
  | 0, _, _, _ => none
  | k + 1, a1, a2, a3 => cond ((decide (a3 < ((a1.length : Int))))) ((idx a1 a3).bind fun m1 => (idx a2 a3).bind fun m2 => (laws_eqFunc k m1 m2).bind fun t3 => cond ((!t3)) (some (.inl (false))) (laws_eqFuncS.l1 k a1 a2 ((IntKind.i64.wrap (a3 + 1))))) (some (.inr ()))

def laws_eqFuncS (k : Nat) (p0 : (List GFunc)) (p1 : (List GFunc)) : Option (Bool) :=
  cond ((((p0.length : Int)) != ((p1.length : Int)))) (some false) ((laws_eqFuncS.l1 k p0 p1 0).bind fun o1 => Sum.elim (fun o1l => some o1l) (fun o1r => some true) o1)

theorem c_laws_eqFuncS {k : Nat} {p0 : (List GFunc)} {p1 : (List GFunc)} {r : Bool} (h : laws_eqFuncS k p0 p1 = some r) : Con Try.prog 42 [.d (.row .bor 3 (Rw (GFunc.cells .bor) p0)), .d (.row .bor 3 (Rw (GFunc.cells .bor) p1))] [] (V.bool r) [] := by
  refine con_of_sw Try.func42 rfl Try.call42 (by simp [Try.ntmps42]) (by simp [V.inNs, V.inN]) (by simp [C.inN, V.inNss, V.inNs, V.inN, inNss_dd]) (by simp [V.inNs, V.inN]) (by simp [C.inN, V.inNss, V.inNs, V.inN, inNss_dd]) rfl ?_
  rw [Try.ntmps42, Try.results42]
  unfold laws_eqFuncS at h
  replace h := Yes.mk h
  simp only [entryS, entryO, Nat.reduceAdd, List.length_nil, List.length_cons]
  repeat' (first
    | with_reducible refine sw_reg ?_
    | with_reducible refine sw_ret ?_
    | with_reducible refine sw_skip ?_
    | with_reducible refine sw_block ?_
    | with_reducible refine sw_exit ?_
    | with_reducible refine seqQ_normal ?_
    | with_reducible refine blockQ_normal ?_
    | with_reducible refine blockQ_ret ?_
    | with_reducible refine blockQ_this ?_
    | with_reducible refine blockQ_other (by decide) ?_
    | with_reducible refine regW_nil ?_
    | with_reducible refine sw_draw mixed ?_
    | (with_reducible refine regD_nil ?_
       refine ⟨by kernel_rfl, ?_⟩)
    | with_reducible refine retQ_ret ?_
    | with_reducible refine retQ_normal ?_
    | (revert h; (first | ((with_reducible refine idx_elim ?_); intro m hm1 hm2 hm3 h; (try (simp only [Int.reduceToNat] at hm3)); (try (revert hm3; (with_reducible apply same_elim); (focus (with_reducible assumption)); rintro rfl)); (try (simp only [List.length_set, List.length_cons, List.length_nil, List.length_replicate, Nat.reduceAdd, Int.cast_ofNat_Int, Nat.zero_add, List.length_append] at hm2))) | (with_reducible refine sidx_elim ?_; intro m hm1 hm3 h) | (with_reducible refine gd_elim ?_; intro hg h; try (have hg2 := hg.2; have hg := hg.1; (try (simp only [Nat.reduceLeDiff] at hg2)); (try (revert hg2; (with_reducible refine toNat_elim hg ?_); intro hg2 hg4)); try (have hg3 := hg2.2; have hg2 := hg2.1; (try (simp only [Nat.reduceLeDiff] at hg3))))) | fail))
    | ((first | with_reducible refine seqQ_ret (K := (fun st1 n1 => Gh st1 n1 (NextS _ 10000000 _ _ _ _))) ?_ | with_reducible refine seqQ_exit (K := (fun st1 n1 => Gh st1 n1 (NextS _ 10000000 _ _ _ _))) ?_)
       obtain rfl := h.get
       have h := hK1
       (try (simp only [Sum.elim_inl, Sum.elim_inr] at h)))
    | (with_reducible refine here_loop (c := (.seq (.seq (.region 4 _ _) _) _)) ?_
       skip
       revert h
       with_reducible refine bind_elimY ?_
       intro o1 h hK1
       refine sw_loop (ι := Nat × (List GFunc) × (List GFunc) × Int) 10000000 (by decide) (fun x : Nat × (List GFunc) × (List GFunc) × Int => [(.s 0, some (.v (.d (.row .bor 3 (Rw (GFunc.cells .bor) x.2.1))))), (.s 1, some (.v (.d (.row .bor 3 (Rw (GFunc.cells .bor) x.2.2.1))))), (.s 5, some (.v (V.int x.2.2.2)))]) (fun x => x.1) (fun x => Yes (laws_eqFuncS.l1 x.1 x.2.1 x.2.2.1 x.2.2.2) o1) (_, _, _, _) ?_ h ?_ ?_
       · exact (by simp [slNL, C.inN, V.inN, V.inNs, V.inNss, inNss_dd, inNs_map_d])
       · simp only [SubL, putSt, lk, Res.s.injEq, Res.r.injEq, reduceCtorEq, Nat.reduceEqDiff, if_true, if_false, List.length_set, List.length_replicate]; repeat' (first | apply And.intro | rfl | trivial | (simp only [*]; done))
       rintro ⟨_ | k, a1, a2, a3⟩ h
       · simp only [laws_eqFuncS.l1] at h; exact h.none
       simp only [laws_eqFuncS.l1] at h
)
    | (with_reducible refine here_next (N0 := 10000000) ?_
       skip
       refine nexts_to (_, _, _, _) (by decide) ?_ (Nat.lt_succ_self _) h ?_
       · exact (by simp [slNL, C.inN, V.inN, V.inNs, V.inNss, inNss_dd, inNs_map_d])
       · simp only [SubL, putSt, lk, Res.s.injEq, Res.r.injEq, reduceCtorEq, Nat.reduceEqDiff, if_true, if_false, List.length_set, List.length_replicate]; repeat' (first | apply And.intro | rfl | trivial | (simp only [*]; done)))
    | with_reducible refine sw_seq ?_
    | with_reducible refine seqQ_ret ?_
    | with_reducible refine seqQ_exit ?_
    | ((with_reducible refine wp_ite ?_ ?_)
       all_goals (intro hc; (try (simp only [Bool.not_eq_true, Bool.not_eq_false] at hc)); (try (revert h; first | (with_reducible refine condt_elim hc ?_; intro h) | (with_reducible refine condf_elim hc ?_; intro h) | fail)); simp only [hc]))
    | (with_reducible apply regW_skip
       · simp only [dstOk, Nat.reduceLT]
       · rfl
       · simp only [putSt, lk, Res.s.injEq, Res.r.injEq, reduceCtorEq, Nat.reduceEqDiff, if_true, if_false]; done)
    | (with_reducible apply regW_yesN
       · simp only [dstOk, Nat.reduceLT]
       · rfl
       · simp only [putSt, lk, Res.s.injEq, Res.r.injEq, reduceCtorEq, Nat.reduceEqDiff, if_true, if_false]; done)
    | (with_reducible apply regW_no
       · simp only [dstOk, Nat.reduceLT]
       · rfl
       · simp only [putSt, lk, Res.s.injEq, Res.r.injEq, reduceCtorEq, Nat.reduceEqDiff, if_true, if_false, Bool.not_true, Bool.not_false]; done)
    | (with_reducible apply regW_guardN
       · simp only [dstOk, Nat.reduceLT]
       · rfl
       · simp only [putSt, lk, Res.s.injEq, Res.r.injEq, reduceCtorEq, Nat.reduceEqDiff, if_true, if_false]; rfl
       all_goals (intro hc; (try (simp only [Bool.not_true, Bool.not_false] at hc)); (try (revert h; first | (with_reducible refine condt_elim hc ?_; intro h) | (with_reducible refine condf_elim hc ?_; intro h) | fail))))
    | ((with_reducible apply sw_cond
        · simp only [putSt, lk, Res.s.injEq, Res.r.injEq, reduceCtorEq, Nat.reduceEqDiff, if_true, if_false]; rfl
        all_goals (intro hc; try (cases hc; done)))
       all_goals (try (revert h; first | (with_reducible refine condt_elim hc ?_; intro h) | (with_reducible refine condf_elim hc ?_; intro h) | fail)))
    | ((first
        | ((with_reducible refine gh_ret ?_)
           revert h
           with_reducible refine some_elim ?_
           rintro rfl)
        | (with_reducible refine here_call ?_
           revert h
           with_reducible refine bind_elim ?_
           intro t ht h
           (first
             | (refine call_dataE (c_laws_eqFunc ht) ?_ rfl ?_
                · first | rfl | (simp; done))))
        | (with_reducible apply regD_opK
           · simp only [dstOk, Nat.reduceLT]
           · simp only [Nat.reduceAdd]; rfl
           intro k hk)
        | (with_reducible apply regW_opK
           · simp only [dstOk, Nat.reduceLT]
           · simp only [Nat.reduceAdd]; rfl
           intro k hk)
        | skip)
       simp only [RetW, bn, opC, opP, fetchN, fetchP, fetchAll, fetchO, Prog.bind, Prog.wp, Prog.wp_bind, lk, nameP, nameAll, Value.oneCell', putSt, stepP, putP, Res.s.injEq, Res.r.injEq, reduceCtorEq, V.lin, V.linL, D.lin, isNil, binP, unP, BinOp.isShift, Prog.ofO, true_and, and_true, Nat.reduceAdd, Nat.reduceMul, Nat.reduceSub, Nat.reduceLT, Nat.reduceLeDiff, Nat.reduceEqDiff, if_true, if_false, ite_true, ite_false, Bool.false_eq_true, Bool.not_true, Bool.not_false, Bool.or_false, Bool.or_true, fieldAddrP, fieldP, indexAddrP, loadP, storeP, boxP, allocP, cellsP, asVal, setSeg, outP, outT, cntT, TyK.field, TyK.agg, zeroRow, V.ren, V.renL, forall_eq_or_imp, implies_true, false_implies, forall_const, and_self, true_or, minmaxP, lenP, lenOf, lenStr, V.asInt, decide_true, decide_false, sliceP, boundP, makeSliceP, convertP, appendP, rowsOfP, ontoP, sizeFits, V.rowSize, TyK.src, resV, resV.go, resV.gol, retP, retOne, retAll, resTo, objsAre, Option.map_eq_map, Function.const_apply, Int.reduceNeg, Int.reduceToNat, ty2, ty3, ty4, ty28, ty63, ty65, ty107, GFunc.cells, GI2.cells, cI, cB, cS, cL, GI2_e, GFunc_e, LGI2_e, *]
       try (refine hk.use _ _ _ _ ?_; clear hk k))
    | fail)
  all_goals (try rfl)
  all_goals (try (simp; done))
  all_goals (try (simp_all; done))

end Go.Proofs.Ytdlaplgofgklnaa
namespace Go.Proofs.Ytdlaplgofgklnaa
open Go.Proofs Go.Proofs.Ytdlaplgofgklnaa.L
set_option maxHeartbeats 1000000
set_option linter.unusedSimpArgs false
set_option linter.unusedVariables false
set_option maxRecDepth 100000

def laws_eqProgram (k : Nat) (p0 : GProgram) (p1 : GProgram) : Option (Bool) :=
  (laws_eqFuncS k p0.funcs p1.funcs).bind fun t1 => cond ((!t1)) (some false) (some true)

theorem c_laws_eqProgram {k : Nat} {p0 : GProgram} {p1 : GProgram} {r : Bool} (h : laws_eqProgram k p0 p1 = some r) : Con Try.prog 14 [.agg [.d (.row .bor 3 (Rw (GFunc.cells .bor) p0.funcs))], .agg [.d (.row .bor 3 (Rw (GFunc.cells .bor) p1.funcs))]] [] (V.bool r) [] := by
  refine con_of_sw Try.func14 rfl Try.call14 (by simp [Try.ntmps14]) (by simp [V.inNs, V.inN]) (by simp [C.inN, V.inNss, V.inNs, V.inN, inNss_dd]) (by simp [V.inNs, V.inN]) (by simp [C.inN, V.inNss, V.inNs, V.inN, inNss_dd]) rfl ?_
  rw [Try.ntmps14, Try.results14]
  unfold laws_eqProgram at h
  replace h := Yes.mk h
  simp only [entryS, entryO, Nat.reduceAdd, List.length_nil, List.length_cons]
  repeat' (first
    | with_reducible refine sw_reg ?_
    | with_reducible refine sw_ret ?_
    | with_reducible refine sw_skip ?_
    | with_reducible refine sw_block ?_
    | with_reducible refine sw_exit ?_
    | with_reducible refine seqQ_normal ?_
    | with_reducible refine blockQ_normal ?_
    | with_reducible refine blockQ_ret ?_
    | with_reducible refine blockQ_this ?_
    | with_reducible refine blockQ_other (by decide) ?_
    | with_reducible refine regW_nil ?_
    | with_reducible refine sw_draw mixed ?_
    | (with_reducible refine regD_nil ?_
       refine ⟨by kernel_rfl, ?_⟩)
    | with_reducible refine retQ_ret ?_
    | with_reducible refine retQ_normal ?_
    | (revert h; (first | ((with_reducible refine idx_elim ?_); intro m hm1 hm2 hm3 h; (try (simp only [Int.reduceToNat] at hm3)); (try (revert hm3; (with_reducible apply same_elim); (focus (with_reducible assumption)); rintro rfl)); (try (simp only [List.length_set, List.length_cons, List.length_nil, List.length_replicate, Nat.reduceAdd, Int.cast_ofNat_Int, Nat.zero_add, List.length_append] at hm2))) | (with_reducible refine sidx_elim ?_; intro m hm1 hm3 h) | (with_reducible refine gd_elim ?_; intro hg h; try (have hg2 := hg.2; have hg := hg.1; (try (simp only [Nat.reduceLeDiff] at hg2)); (try (revert hg2; (with_reducible refine toNat_elim hg ?_); intro hg2 hg4)); try (have hg3 := hg2.2; have hg2 := hg2.1; (try (simp only [Nat.reduceLeDiff] at hg3))))) | fail))
    | with_reducible refine sw_seq ?_
    | with_reducible refine seqQ_ret ?_
    | with_reducible refine seqQ_exit ?_
    | ((with_reducible refine wp_ite ?_ ?_)
       all_goals (intro hc; (try (simp only [Bool.not_eq_true, Bool.not_eq_false] at hc)); (try (revert h; first | (with_reducible refine condt_elim hc ?_; intro h) | (with_reducible refine condf_elim hc ?_; intro h) | fail)); simp only [hc]))
    | (with_reducible apply regW_skip
       · simp only [dstOk, Nat.reduceLT]
       · rfl
       · simp only [putSt, lk, Res.s.injEq, Res.r.injEq, reduceCtorEq, Nat.reduceEqDiff, if_true, if_false]; done)
    | (with_reducible apply regW_yesN
       · simp only [dstOk, Nat.reduceLT]
       · rfl
       · simp only [putSt, lk, Res.s.injEq, Res.r.injEq, reduceCtorEq, Nat.reduceEqDiff, if_true, if_false]; done)
    | (with_reducible apply regW_no
       · simp only [dstOk, Nat.reduceLT]
       · rfl
       · simp only [putSt, lk, Res.s.injEq, Res.r.injEq, reduceCtorEq, Nat.reduceEqDiff, if_true, if_false, Bool.not_true, Bool.not_false]; done)
    | (with_reducible apply regW_guardN
       · simp only [dstOk, Nat.reduceLT]
       · rfl
       · simp only [putSt, lk, Res.s.injEq, Res.r.injEq, reduceCtorEq, Nat.reduceEqDiff, if_true, if_false]; rfl
       all_goals (intro hc; (try (simp only [Bool.not_true, Bool.not_false] at hc)); (try (revert h; first | (with_reducible refine condt_elim hc ?_; intro h) | (with_reducible refine condf_elim hc ?_; intro h) | fail))))
    | ((with_reducible apply sw_cond
        · simp only [putSt, lk, Res.s.injEq, Res.r.injEq, reduceCtorEq, Nat.reduceEqDiff, if_true, if_false]; rfl
        all_goals (intro hc; try (cases hc; done)))
       all_goals (try (revert h; first | (with_reducible refine condt_elim hc ?_; intro h) | (with_reducible refine condf_elim hc ?_; intro h) | fail)))
    | ((first
        | ((with_reducible refine gh_ret ?_)
           revert h
           with_reducible refine some_elim ?_
           rintro rfl)
        | (with_reducible refine here_call ?_
           revert h
           with_reducible refine bind_elim ?_
           intro t ht h
           (first
             | (refine call_dataE (c_laws_eqFuncS ht) ?_ rfl ?_
                · first | rfl | (simp; done))))
        | (with_reducible apply regD_opK
           · simp only [dstOk, Nat.reduceLT]
           · simp only [Nat.reduceAdd]; rfl
           intro k hk)
        | (with_reducible apply regW_opK
           · simp only [dstOk, Nat.reduceLT]
           · simp only [Nat.reduceAdd]; rfl
           intro k hk)
        | skip)
       simp only [RetW, bn, opC, opP, fetchN, fetchP, fetchAll, fetchO, Prog.bind, Prog.wp, Prog.wp_bind, lk, nameP, nameAll, Value.oneCell', putSt, stepP, putP, Res.s.injEq, Res.r.injEq, reduceCtorEq, V.lin, V.linL, D.lin, isNil, binP, unP, BinOp.isShift, Prog.ofO, true_and, and_true, Nat.reduceAdd, Nat.reduceMul, Nat.reduceSub, Nat.reduceLT, Nat.reduceLeDiff, Nat.reduceEqDiff, if_true, if_false, ite_true, ite_false, Bool.false_eq_true, Bool.not_true, Bool.not_false, Bool.or_false, Bool.or_true, fieldAddrP, fieldP, indexAddrP, loadP, storeP, boxP, allocP, cellsP, asVal, setSeg, outP, outT, cntT, TyK.field, TyK.agg, zeroRow, V.ren, V.renL, forall_eq_or_imp, implies_true, false_implies, forall_const, and_self, true_or, minmaxP, lenP, lenOf, lenStr, V.asInt, decide_true, decide_false, sliceP, boundP, makeSliceP, convertP, appendP, rowsOfP, ontoP, sizeFits, V.rowSize, TyK.src, resV, resV.go, resV.gol, retP, retOne, retAll, resTo, objsAre, Option.map_eq_map, Function.const_apply, Int.reduceNeg, Int.reduceToNat, ty2, ty4, ty28, ty30, ty63, ty65, ty107, GFunc.cells, GI2.cells, GProgram.cells, cI, cB, cS, cL, GI2_e, GFunc_e, GProgram_e, LGI2_e, *]
       try (refine hk.use _ _ _ _ ?_; clear hk k))
    | fail)
  all_goals (try rfl)
  all_goals (try (simp; done))
  all_goals (try (simp_all; done))

end Go.Proofs.Ytdlaplgofgklnaa
namespace Go.Proofs.Ytdlaplgofgklnaa
open Go.Proofs Go.Proofs.Ytdlaplgofgklnaa.L
set_option maxHeartbeats 1000000
set_option linter.unusedSimpArgs false
set_option linter.unusedVariables false
set_option maxRecDepth 100000

def laws_markInsS.l1 : Nat → (List GI2) → Int → Int → Option ((List GI2) × Int)
  | 0, _, _, _ => none
  | k + 1, a1, a2, a3 => cond ((decide (a3 < ((a1.length : Int))))) ((idx a1 a3).bind fun m1 => laws_markInsS.l1 k ((a1.set a3.toNat ((⟨a2, (IntKind.i64.wrap (a2 + 1))⟩ : GI2)))) ((IntKind.i64.wrap (((IntKind.i64.wrap (a2 + 1))) + 1))) ((IntKind.i64.wrap (a3 + 1)))) (some (a1, a2))

def laws_markInsS (k : Nat) (p0 : (List GI2)) (p1 : Int) : Option (Int × (List GI2)) :=
  (laws_markInsS.l1 k p0 p1 0).bind fun o1 => some (o1.2, o1.1)

theorem c_laws_markInsS {k : Nat} {p0 : (List GI2)} {p1 : Int} {r : Int × (List GI2)} (h : laws_markInsS k p0 p1 = some r) : Con Try.prog 75 [.sl 0 2 0 p0.length, V.int p1] [.o 2 (dd (Rw GI2.cells p0))] (V.int r.1) [.o 2 (dd (Rw GI2.cells r.2))] := by
  refine con_of_sw Try.func75 rfl Try.call75 (by simp [Try.ntmps75]) (by simp [V.inNs, V.inN]) (by simp [C.inN, V.inNss, V.inNs, V.inN, inNss_dd]) (by simp [V.inNs, V.inN]) (by simp [C.inN, V.inNss, V.inNs, V.inN, inNss_dd]) rfl ?_
  rw [Try.ntmps75, Try.results75]
  unfold laws_markInsS at h
  replace h := Yes.mk h
  simp only [entryS, entryO, Nat.reduceAdd, List.length_nil, List.length_cons]
  repeat' (first
    | with_reducible refine sw_reg ?_
    | with_reducible refine sw_ret ?_
    | with_reducible refine sw_skip ?_
    | with_reducible refine sw_block ?_
    | with_reducible refine sw_exit ?_
    | with_reducible refine seqQ_normal ?_
    | with_reducible refine blockQ_normal ?_
    | with_reducible refine blockQ_ret ?_
    | with_reducible refine blockQ_this ?_
    | with_reducible refine blockQ_other (by decide) ?_
    | with_reducible refine regW_nil ?_
    | with_reducible refine sw_draw mixed ?_
    | (with_reducible refine regD_nil ?_
       refine ⟨by kernel_rfl, ?_⟩)
    | with_reducible refine retQ_ret ?_
    | with_reducible refine retQ_normal ?_
    | (revert h; (first | ((with_reducible refine idx_elim ?_); intro m hm1 hm2 hm3 h; (try (simp only [Int.reduceToNat] at hm3)); (try (revert hm3; (with_reducible apply same_elim); (focus (with_reducible assumption)); rintro rfl)); (try (simp only [List.length_set, List.length_cons, List.length_nil, List.length_replicate, Nat.reduceAdd, Int.cast_ofNat_Int, Nat.zero_add, List.length_append] at hm2))) | (with_reducible refine sidx_elim ?_; intro m hm1 hm3 h) | (with_reducible refine gd_elim ?_; intro hg h; try (have hg2 := hg.2; have hg := hg.1; (try (simp only [Nat.reduceLeDiff] at hg2)); (try (revert hg2; (with_reducible refine toNat_elim hg ?_); intro hg2 hg4)); try (have hg3 := hg2.2; have hg2 := hg2.1; (try (simp only [Nat.reduceLeDiff] at hg3))))) | fail))
    | ((first | with_reducible refine seqQ_ret (K := (fun st1 n1 => Gh st1 n1 (NextS _ 10000000 _ _ _ _))) ?_ | with_reducible refine seqQ_exit (K := (fun st1 n1 => Gh st1 n1 (NextS _ 10000000 _ _ _ _))) ?_)
       obtain rfl := h.get
       have h := hK1
       (try (simp only [Sum.elim_inl, Sum.elim_inr] at h)))
    | (with_reducible refine here_loop (c := (.seq (.seq (.region 2 _ _) _) _)) ?_
       skip
       revert h
       with_reducible refine bind_elimY ?_
       intro o1 h hK1
       refine sw_loop (ι := Nat × (List GI2) × Int × Int) 10000000 (by decide) (fun x : Nat × (List GI2) × Int × Int => [(.s 0, some (.v (.sl 0 2 0 x.2.1.length))), (.s 1, some (.v (V.int x.2.2.1))), (.s 5, some (.v (V.int x.2.2.2))), (.r 0, some (.o 2 (dd (Rw GI2.cells x.2.1))))]) (fun x => x.1) (fun x => Yes (laws_markInsS.l1 x.1 x.2.1 x.2.2.1 x.2.2.2) o1) (_, _, _, _) ?_ h ?_ ?_
       · exact (by simp [slNL, C.inN, V.inN, V.inNs, V.inNss, inNss_dd, inNs_map_d])
       · simp only [SubL, putSt, lk, Res.s.injEq, Res.r.injEq, reduceCtorEq, Nat.reduceEqDiff, if_true, if_false, List.length_set, List.length_replicate]; repeat' (first | apply And.intro | rfl | trivial | (simp only [*]; done))
       rintro ⟨_ | k, a1, a2, a3⟩ h
       · simp only [laws_markInsS.l1] at h; exact h.none
       simp only [laws_markInsS.l1] at h
)
    | (with_reducible refine here_next (N0 := 10000000) ?_
       skip
       refine nexts_to (_, _, _, _) (by decide) ?_ (Nat.lt_succ_self _) h ?_
       · exact (by simp [slNL, C.inN, V.inN, V.inNs, V.inNss, inNss_dd, inNs_map_d])
       · simp only [SubL, putSt, lk, Res.s.injEq, Res.r.injEq, reduceCtorEq, Nat.reduceEqDiff, if_true, if_false, List.length_set, List.length_replicate]; repeat' (first | apply And.intro | rfl | trivial | (simp only [*]; done)))
    | with_reducible refine sw_seq ?_
    | with_reducible refine seqQ_ret ?_
    | with_reducible refine seqQ_exit ?_
    | ((with_reducible refine wp_ite ?_ ?_)
       all_goals (intro hc; (try (simp only [Bool.not_eq_true, Bool.not_eq_false] at hc)); (try (revert h; first | (with_reducible refine condt_elim hc ?_; intro h) | (with_reducible refine condf_elim hc ?_; intro h) | fail)); simp only [hc]))
    | (with_reducible apply regW_skip
       · simp only [dstOk, Nat.reduceLT]
       · rfl
       · simp only [putSt, lk, Res.s.injEq, Res.r.injEq, reduceCtorEq, Nat.reduceEqDiff, if_true, if_false]; done)
    | (with_reducible apply regW_yesN
       · simp only [dstOk, Nat.reduceLT]
       · rfl
       · simp only [putSt, lk, Res.s.injEq, Res.r.injEq, reduceCtorEq, Nat.reduceEqDiff, if_true, if_false]; done)
    | (with_reducible apply regW_no
       · simp only [dstOk, Nat.reduceLT]
       · rfl
       · simp only [putSt, lk, Res.s.injEq, Res.r.injEq, reduceCtorEq, Nat.reduceEqDiff, if_true, if_false, Bool.not_true, Bool.not_false]; done)
    | (with_reducible apply regW_guardN
       · simp only [dstOk, Nat.reduceLT]
       · rfl
       · simp only [putSt, lk, Res.s.injEq, Res.r.injEq, reduceCtorEq, Nat.reduceEqDiff, if_true, if_false]; rfl
       all_goals (intro hc; (try (simp only [Bool.not_true, Bool.not_false] at hc)); (try (revert h; first | (with_reducible refine condt_elim hc ?_; intro h) | (with_reducible refine condf_elim hc ?_; intro h) | fail))))
    | ((with_reducible apply sw_cond
        · simp only [putSt, lk, Res.s.injEq, Res.r.injEq, reduceCtorEq, Nat.reduceEqDiff, if_true, if_false]; rfl
        all_goals (intro hc; try (cases hc; done)))
       all_goals (try (revert h; first | (with_reducible refine condt_elim hc ?_; intro h) | (with_reducible refine condf_elim hc ?_; intro h) | fail)))
    | ((first
        | ((with_reducible refine gh_ret ?_)
           revert h
           with_reducible refine some_elim ?_
           rintro rfl)
        | (with_reducible apply regD_opK
           · simp only [dstOk, Nat.reduceLT]
           · simp only [Nat.reduceAdd]; rfl
           intro k hk)
        | (with_reducible apply regW_opK
           · simp only [dstOk, Nat.reduceLT]
           · simp only [Nat.reduceAdd]; rfl
           intro k hk)
        | skip)
       simp only [RetW, bn, opC, opP, fetchN, fetchP, fetchAll, fetchO, Prog.bind, Prog.wp, Prog.wp_bind, lk, nameP, nameAll, Value.oneCell', putSt, stepP, putP, Res.s.injEq, Res.r.injEq, reduceCtorEq, V.lin, V.linL, D.lin, isNil, binP, unP, BinOp.isShift, Prog.ofO, true_and, and_true, Nat.reduceAdd, Nat.reduceMul, Nat.reduceSub, Nat.reduceLT, Nat.reduceLeDiff, Nat.reduceEqDiff, if_true, if_false, ite_true, ite_false, Bool.false_eq_true, Bool.not_true, Bool.not_false, Bool.or_false, Bool.or_true, fieldAddrP, fieldP, indexAddrP, loadP, storeP, boxP, allocP, cellsP, asVal, setSeg, outP, outT, cntT, TyK.field, TyK.agg, zeroRow, V.ren, V.renL, forall_eq_or_imp, implies_true, false_implies, forall_const, and_self, true_or, minmaxP, lenP, lenOf, lenStr, V.asInt, decide_true, decide_false, sliceP, boundP, makeSliceP, convertP, appendP, rowsOfP, ontoP, sizeFits, V.rowSize, TyK.src, resV, resV.go, resV.gol, retP, retOne, retAll, resTo, objsAre, Option.map_eq_map, Function.const_apply, Int.reduceNeg, Int.reduceToNat, ty2, ty3, ty63, ty107, GI2.cells, cI, cB, cS, cL, GI2_e, LGI2_e, *]
       try (refine hk.use _ _ _ _ ?_; clear hk k))
    | fail)
  all_goals (try rfl)
  all_goals (try (simp; done))
  all_goals (try (simp_all; done))

end Go.Proofs.Ytdlaplgofgklnaa
namespace Go.Proofs.Ytdlaplgofgklnaa
open Go.Proofs Go.Proofs.Ytdlaplgofgklnaa.L
set_option maxHeartbeats 1000000
set_option linter.unusedSimpArgs false
set_option linter.unusedVariables false
set_option maxRecDepth 100000

def laws_markFuncS.l1 : Nat → (List GFunc) → Int → Int → Option ((List GFunc) × Int)
  | 0, _, _, _ => none
  | k + 1, a1, a2, a3 => cond ((decide (a3 < ((a1.length : Int))))) ((idx a1 a3).bind fun m1 => (laws_markInsS k m1.code ((IntKind.i64.wrap (((IntKind.i64.wrap (a2 + 1))) + 1)))).bind fun t2 => gd (t2.2.length = m1.code.length) (laws_markFuncS.l1 k ((((a1.set a3.toNat ((⟨a2, (IntKind.i64.wrap (a2 + 1)), m1.code⟩ : GFunc)))).set a3.toNat (⟨a2, (IntKind.i64.wrap (a2 + 1)), t2.2⟩ : GFunc))) t2.1 ((IntKind.i64.wrap (a3 + 1))))) (some (a1, a2))

def laws_markFuncS (k : Nat) (p0 : (List GFunc)) (p1 : Int) : Option (Int × (List GFunc)) :=
  (laws_markFuncS.l1 k p0 p1 0).bind fun o1 => some (o1.2, o1.1)

theorem c_laws_markFuncS {k : Nat} {p0 : (List GFunc)} {p1 : Int} {r : Int × (List GFunc)} (h : laws_markFuncS k p0 p1 = some r) : Con Try.prog 43 [.sl 0 3 0 p0.length, V.int p1] [.o 3 (dd (Rw (GFunc.cells .own) p0))] (V.int r.1) [.o 3 (dd (Rw (GFunc.cells .own) r.2))] := by
  refine con_of_sw Try.func43 rfl Try.call43 (by simp [Try.ntmps43]) (by simp [V.inNs, V.inN]) (by simp [C.inN, V.inNss, V.inNs, V.inN, inNss_dd]) (by simp [V.inNs, V.inN]) (by simp [C.inN, V.inNss, V.inNs, V.inN, inNss_dd]) rfl ?_
  rw [Try.ntmps43, Try.results43]
  unfold laws_markFuncS at h
  replace h := Yes.mk h
  simp only [entryS, entryO, Nat.reduceAdd, List.length_nil, List.length_cons]
  repeat' (first
    | with_reducible refine sw_reg ?_
    | with_reducible refine sw_ret ?_
    | with_reducible refine sw_skip ?_
    | with_reducible refine sw_block ?_
    | with_reducible refine sw_exit ?_
    | with_reducible refine seqQ_normal ?_
    | with_reducible refine blockQ_normal ?_
    | with_reducible refine blockQ_ret ?_
    | with_reducible refine blockQ_this ?_
    | with_reducible refine blockQ_other (by decide) ?_
    | with_reducible refine regW_nil ?_
    | with_reducible refine sw_draw mixed ?_
    | (with_reducible refine regD_nil ?_
       refine ⟨by kernel_rfl, ?_⟩)
    | with_reducible refine retQ_ret ?_
    | with_reducible refine retQ_normal ?_
    | (revert h; (first | ((with_reducible refine idx_elim ?_); intro m hm1 hm2 hm3 h; (try (simp only [Int.reduceToNat] at hm3)); (try (revert hm3; (with_reducible apply same_elim); (focus (with_reducible assumption)); rintro rfl)); (try (simp only [List.length_set, List.length_cons, List.length_nil, List.length_replicate, Nat.reduceAdd, Int.cast_ofNat_Int, Nat.zero_add, List.length_append] at hm2))) | (with_reducible refine sidx_elim ?_; intro m hm1 hm3 h) | (with_reducible refine gd_elim ?_; intro hg h; try (have hg2 := hg.2; have hg := hg.1; (try (simp only [Nat.reduceLeDiff] at hg2)); (try (revert hg2; (with_reducible refine toNat_elim hg ?_); intro hg2 hg4)); try (have hg3 := hg2.2; have hg2 := hg2.1; (try (simp only [Nat.reduceLeDiff] at hg3))))) | fail))
    | ((first | with_reducible refine seqQ_ret (K := (fun st1 n1 => Gh st1 n1 (NextS _ 10000000 _ _ _ _))) ?_ | with_reducible refine seqQ_exit (K := (fun st1 n1 => Gh st1 n1 (NextS _ 10000000 _ _ _ _))) ?_)
       obtain rfl := h.get
       have h := hK1
       (try (simp only [Sum.elim_inl, Sum.elim_inr] at h)))
    | (with_reducible refine here_loop (c := (.seq (.seq (.region 2 _ _) _) _)) ?_
       skip
       revert h
       with_reducible refine bind_elimY ?_
       intro o1 h hK1
       refine sw_gh ?_
       (try (apply gh_resRow 0; (focus (simp only [putSt, lk, Res.s.injEq, Res.r.injEq, reduceCtorEq, Nat.reduceEqDiff, if_true, if_false]; try rfl)); (focus (first | (simp only [Rw_length, List.length_set]; omega) | (simp [Rw_length]; omega))); simp only [List.set_cons_zero, List.set_cons_succ, List.length_nil, List.length_cons, Nat.reduceAdd, Nat.reduceLeDiff, List.take_succ_cons, List.take_of_length_le, List.length_set, List.length_replicate, List.take_length, List.take_nil, List.take_zero, List.drop_nil, List.map_nil, List.map_cons, resSlotP, nameSlotP, Prog.wp, Prog.wp_bind, Prog.bind, Prog.ofO, putSt, lk, Res.s.injEq, Res.r.injEq, reduceCtorEq, Nat.reduceEqDiff, if_true, if_false, resV, resV.go, resV.gol, resGo_dd, dd_length, dd_take, dd_drop, dd_get, List.drop_zero, Rw_length, Rw_take, Rw_drop, Nat.zero_add, Nat.le_refl, true_and, and_true, and_self, nameAll, nameP, outP, outT, cntT, V.lin, D.lin, *, not_false_eq_true, List.not_mem_nil, List.mem_cons, reduceCtorEq, or_self, Nat.reduceEqDiff, List.map_cons, List.map_nil, GI2_Dset, GFunc_Dset, LGI2_Dset]))
       refine gh_sw ?_
       refine sw_loop (ι := Nat × (List GFunc) × Int × Int) 10000000 (by decide) (fun x : Nat × (List GFunc) × Int × Int => [(.s 0, some (.v (.sl 0 3 0 x.2.1.length))), (.s 1, some (.v (V.int x.2.2.1))), (.s 5, some (.v (V.int x.2.2.2))), (.r 0, some (.o 3 (dd (Rw (GFunc.cells .own) x.2.1))))]) (fun x => x.1) (fun x => Yes (laws_markFuncS.l1 x.1 x.2.1 x.2.2.1 x.2.2.2) o1) (_, _, _, _) ?_ h ?_ ?_
       · exact (by simp [slNL, C.inN, V.inN, V.inNs, V.inNss, inNss_dd, inNs_map_d])
       · simp only [SubL, putSt, lk, Res.s.injEq, Res.r.injEq, reduceCtorEq, Nat.reduceEqDiff, if_true, if_false, List.length_set, List.length_replicate]; repeat' (first | apply And.intro | rfl | trivial | (simp only [*]; done))
       rintro ⟨_ | k, a1, a2, a3⟩ h
       · simp only [laws_markFuncS.l1] at h; exact h.none
       simp only [laws_markFuncS.l1] at h
)
    | (with_reducible refine here_next (N0 := 10000000) ?_
       skip
       (try (apply gh_resRow 0; (focus (simp only [putSt, lk, Res.s.injEq, Res.r.injEq, reduceCtorEq, Nat.reduceEqDiff, if_true, if_false]; try rfl)); (focus (first | (simp only [Rw_length, List.length_set]; omega) | (simp [Rw_length]; omega))); simp only [List.set_cons_zero, List.set_cons_succ, List.length_nil, List.length_cons, Nat.reduceAdd, Nat.reduceLeDiff, List.take_succ_cons, List.take_of_length_le, List.length_set, List.length_replicate, List.take_length, List.take_nil, List.take_zero, List.drop_nil, List.map_nil, List.map_cons, resSlotP, nameSlotP, Prog.wp, Prog.wp_bind, Prog.bind, Prog.ofO, putSt, lk, Res.s.injEq, Res.r.injEq, reduceCtorEq, Nat.reduceEqDiff, if_true, if_false, resV, resV.go, resV.gol, resGo_dd, dd_length, dd_take, dd_drop, dd_get, List.drop_zero, Rw_length, Rw_take, Rw_drop, Nat.zero_add, Nat.le_refl, true_and, and_true, and_self, nameAll, nameP, outP, outT, cntT, V.lin, D.lin, *, not_false_eq_true, List.not_mem_nil, List.mem_cons, reduceCtorEq, or_self, Nat.reduceEqDiff, List.map_cons, List.map_nil, GI2_Dset, GFunc_Dset, LGI2_Dset]))
       refine nexts_to (_, _, _, _) (by decide) ?_ (Nat.lt_succ_self _) h ?_
       · exact (by simp [slNL, C.inN, V.inN, V.inNs, V.inNss, inNss_dd, inNs_map_d])
       · simp only [SubL, putSt, lk, Res.s.injEq, Res.r.injEq, reduceCtorEq, Nat.reduceEqDiff, if_true, if_false, List.length_set, List.length_replicate]; repeat' (first | apply And.intro | rfl | trivial | (simp only [*]; done)))
    | with_reducible refine sw_seq ?_
    | with_reducible refine seqQ_ret ?_
    | with_reducible refine seqQ_exit ?_
    | ((with_reducible refine wp_ite ?_ ?_)
       all_goals (intro hc; (try (simp only [Bool.not_eq_true, Bool.not_eq_false] at hc)); (try (revert h; first | (with_reducible refine condt_elim hc ?_; intro h) | (with_reducible refine condf_elim hc ?_; intro h) | fail)); simp only [hc]))
    | (with_reducible apply regW_skip
       · simp only [dstOk, Nat.reduceLT]
       · rfl
       · simp only [putSt, lk, Res.s.injEq, Res.r.injEq, reduceCtorEq, Nat.reduceEqDiff, if_true, if_false]; done)
    | (with_reducible apply regW_yesN
       · simp only [dstOk, Nat.reduceLT]
       · rfl
       · simp only [putSt, lk, Res.s.injEq, Res.r.injEq, reduceCtorEq, Nat.reduceEqDiff, if_true, if_false]; done)
    | (with_reducible apply regW_no
       · simp only [dstOk, Nat.reduceLT]
       · rfl
       · simp only [putSt, lk, Res.s.injEq, Res.r.injEq, reduceCtorEq, Nat.reduceEqDiff, if_true, if_false, Bool.not_true, Bool.not_false]; done)
    | (with_reducible apply regW_guardN
       · simp only [dstOk, Nat.reduceLT]
       · rfl
       · simp only [putSt, lk, Res.s.injEq, Res.r.injEq, reduceCtorEq, Nat.reduceEqDiff, if_true, if_false]; rfl
       all_goals (intro hc; (try (simp only [Bool.not_true, Bool.not_false] at hc)); (try (revert h; first | (with_reducible refine condt_elim hc ?_; intro h) | (with_reducible refine condf_elim hc ?_; intro h) | fail))))
    | ((with_reducible apply sw_cond
        · simp only [putSt, lk, Res.s.injEq, Res.r.injEq, reduceCtorEq, Nat.reduceEqDiff, if_true, if_false]; rfl
        all_goals (intro hc; try (cases hc; done)))
       all_goals (try (revert h; first | (with_reducible refine condt_elim hc ?_; intro h) | (with_reducible refine condf_elim hc ?_; intro h) | fail)))
    | ((first
        | ((with_reducible refine gh_ret ?_)
           revert h
           with_reducible refine some_elim ?_
           rintro rfl)
        | (with_reducible refine here_call ?_
           revert h
           with_reducible refine bind_elim ?_
           intro t ht h
           (first
             | (refine call_obj [10001664] (c_laws_markInsS ht) (by decide) ?_ ?_
                · first | exact .inl rfl | (refine .inr ⟨?_, ?_⟩; (focus (first | rfl | (simp only [V.nb, V.nbL, D.nb, D.nbL, Md.nb, cI_nb, cB_nb, cS_nb, Bool.and_self, Bool.and_true, GI2_nb, GFunc_nb, LGI2_nb]; done))); (focus (simp [C.nb, V.nbLL, V.nbL, V.nb, D.nb]; done)))
                simp only [argsP, argP, V.namesOf, V.namesOfL, List.mem_append, List.append_nil, List.mem_cons, or_false, or_true, true_or, objsP, C.ren, V.ren, V.renL, renLL_dd, V.renLL, List.getD_cons_zero, List.getD_cons_succ, C.o.injEq, List.length_set, List.length_replicate, lendAL, lendA, Option.bind_some, Option.map_some, undd_dd, dd_length, dd_take, dd_drop, Rw_length, Rw_take, Rw_drop, Nat.zero_add, Nat.add_zero, Nat.le_refl, true_and, and_true, and_self, List.take_length, List.drop_zero, C.o.injEq, V.d.injEq, undd.unddR, List.getElem?_cons_zero, List.length_cons, List.length_nil, Nat.zero_le, D.lendL, D.lend, Md.lend, List.map_cons, List.map_nil, cI_lend, cB_lend, cS_lend, GI2_lend, GFunc_lend, LGI2_lend, putSt, lk, Res.s.injEq, Res.r.injEq, reduceCtorEq, Nat.reduceEqDiff, if_true, if_false, Prog.wp, Prog.wp_bind, Prog.bind, Prog.ofO, List.take_of_length_le, *])))
        | (with_reducible apply regD_opK
           · simp only [dstOk, Nat.reduceLT]
           · simp only [Nat.reduceAdd]; rfl
           intro k hk)
        | (with_reducible apply regW_opK
           · simp only [dstOk, Nat.reduceLT]
           · simp only [Nat.reduceAdd]; rfl
           intro k hk)
        | skip)
       simp only [RetW, bn, opC, opP, fetchN, fetchP, fetchAll, fetchO, Prog.bind, Prog.wp, Prog.wp_bind, lk, nameP, nameAll, Value.oneCell', putSt, stepP, putP, Res.s.injEq, Res.r.injEq, reduceCtorEq, V.lin, V.linL, D.lin, isNil, binP, unP, BinOp.isShift, Prog.ofO, true_and, and_true, Nat.reduceAdd, Nat.reduceMul, Nat.reduceSub, Nat.reduceLT, Nat.reduceLeDiff, Nat.reduceEqDiff, if_true, if_false, ite_true, ite_false, Bool.false_eq_true, Bool.not_true, Bool.not_false, Bool.or_false, Bool.or_true, fieldAddrP, fieldP, indexAddrP, loadP, storeP, boxP, allocP, cellsP, asVal, setSeg, outP, outT, cntT, TyK.field, TyK.agg, zeroRow, V.ren, V.renL, forall_eq_or_imp, implies_true, false_implies, forall_const, and_self, true_or, minmaxP, lenP, lenOf, lenStr, V.asInt, decide_true, decide_false, sliceP, boundP, makeSliceP, convertP, appendP, rowsOfP, ontoP, sizeFits, V.rowSize, TyK.src, resV, resV.go, resV.gol, retP, retOne, retAll, resTo, objsAre, Option.map_eq_map, Function.const_apply, Int.reduceNeg, Int.reduceToNat, ty2, ty3, ty28, ty63, ty65, ty107, GFunc.cells, GI2.cells, cI, cB, cS, cL, GI2_e, GFunc_e, LGI2_e, *]
       try (refine hk.use _ _ _ _ ?_; clear hk k))
    | fail)
  all_goals (try rfl)
  all_goals (try (simp; done))
  all_goals (try (simp_all; done))

end Go.Proofs.Ytdlaplgofgklnaa
namespace Go.Proofs.Ytdlaplgofgklnaa
open Go.Proofs Go.Proofs.Ytdlaplgofgklnaa.L
set_option maxHeartbeats 1000000
set_option linter.unusedSimpArgs false
set_option linter.unusedVariables false
set_option maxRecDepth 100000

def laws_markProgram (k : Nat) (p0 : GProgram) (p1 : Int) : Option (Int × (List GFunc)) :=
  (laws_markFuncS k p0.funcs p1).bind fun t1 => gd (t1.2.length = p0.funcs.length) (some (t1.1, t1.2))

theorem c_laws_markProgram {k : Nat} {p0 : GProgram} {p1 : Int} {r : Int × (List GFunc)} (h : laws_markProgram k p0 p1 = some r) : Con Try.prog 15 [.agg [.sl 0 3 0 p0.funcs.length], V.int p1] [.o 3 (dd (Rw (GFunc.cells .own) p0.funcs))] (V.int r.1) [.o 3 (dd (Rw (GFunc.cells .own) r.2))] := by
  refine con_of_sw Try.func15 rfl Try.call15 (by simp [Try.ntmps15]) (by simp [V.inNs, V.inN]) (by simp [C.inN, V.inNss, V.inNs, V.inN, inNss_dd]) (by simp [V.inNs, V.inN]) (by simp [C.inN, V.inNss, V.inNs, V.inN, inNss_dd]) rfl ?_
  rw [Try.ntmps15, Try.results15]
  unfold laws_markProgram at h
  replace h := Yes.mk h
  simp only [entryS, entryO, Nat.reduceAdd, List.length_nil, List.length_cons]
  repeat' (first
    | with_reducible refine sw_reg ?_
    | with_reducible refine sw_ret ?_
    | with_reducible refine sw_skip ?_
    | with_reducible refine sw_block ?_
    | with_reducible refine sw_exit ?_
    | with_reducible refine seqQ_normal ?_
    | with_reducible refine blockQ_normal ?_
    | with_reducible refine blockQ_ret ?_
    | with_reducible refine blockQ_this ?_
    | with_reducible refine blockQ_other (by decide) ?_
    | with_reducible refine regW_nil ?_
    | with_reducible refine sw_draw mixed ?_
    | (with_reducible refine regD_nil ?_
       refine ⟨by kernel_rfl, ?_⟩)
    | with_reducible refine retQ_ret ?_
    | with_reducible refine retQ_normal ?_
    | (revert h; (first | ((with_reducible refine idx_elim ?_); intro m hm1 hm2 hm3 h; (try (simp only [Int.reduceToNat] at hm3)); (try (revert hm3; (with_reducible apply same_elim); (focus (with_reducible assumption)); rintro rfl)); (try (simp only [List.length_set, List.length_cons, List.length_nil, List.length_replicate, Nat.reduceAdd, Int.cast_ofNat_Int, Nat.zero_add, List.length_append] at hm2))) | (with_reducible refine sidx_elim ?_; intro m hm1 hm3 h) | (with_reducible refine gd_elim ?_; intro hg h; try (have hg2 := hg.2; have hg := hg.1; (try (simp only [Nat.reduceLeDiff] at hg2)); (try (revert hg2; (with_reducible refine toNat_elim hg ?_); intro hg2 hg4)); try (have hg3 := hg2.2; have hg2 := hg2.1; (try (simp only [Nat.reduceLeDiff] at hg3))))) | fail))
    | with_reducible refine sw_seq ?_
    | with_reducible refine seqQ_ret ?_
    | with_reducible refine seqQ_exit ?_
    | ((with_reducible refine wp_ite ?_ ?_)
       all_goals (intro hc; (try (simp only [Bool.not_eq_true, Bool.not_eq_false] at hc)); (try (revert h; first | (with_reducible refine condt_elim hc ?_; intro h) | (with_reducible refine condf_elim hc ?_; intro h) | fail)); simp only [hc]))
    | (with_reducible apply regW_skip
       · simp only [dstOk, Nat.reduceLT]
       · rfl
       · simp only [putSt, lk, Res.s.injEq, Res.r.injEq, reduceCtorEq, Nat.reduceEqDiff, if_true, if_false]; done)
    | (with_reducible apply regW_yesN
       · simp only [dstOk, Nat.reduceLT]
       · rfl
       · simp only [putSt, lk, Res.s.injEq, Res.r.injEq, reduceCtorEq, Nat.reduceEqDiff, if_true, if_false]; done)
    | (with_reducible apply regW_no
       · simp only [dstOk, Nat.reduceLT]
       · rfl
       · simp only [putSt, lk, Res.s.injEq, Res.r.injEq, reduceCtorEq, Nat.reduceEqDiff, if_true, if_false, Bool.not_true, Bool.not_false]; done)
    | (with_reducible apply regW_guardN
       · simp only [dstOk, Nat.reduceLT]
       · rfl
       · simp only [putSt, lk, Res.s.injEq, Res.r.injEq, reduceCtorEq, Nat.reduceEqDiff, if_true, if_false]; rfl
       all_goals (intro hc; (try (simp only [Bool.not_true, Bool.not_false] at hc)); (try (revert h; first | (with_reducible refine condt_elim hc ?_; intro h) | (with_reducible refine condf_elim hc ?_; intro h) | fail))))
    | ((with_reducible apply sw_cond
        · simp only [putSt, lk, Res.s.injEq, Res.r.injEq, reduceCtorEq, Nat.reduceEqDiff, if_true, if_false]; rfl
        all_goals (intro hc; try (cases hc; done)))
       all_goals (try (revert h; first | (with_reducible refine condt_elim hc ?_; intro h) | (with_reducible refine condf_elim hc ?_; intro h) | fail)))
    | ((first
        | ((with_reducible refine gh_ret ?_)
           revert h
           with_reducible refine some_elim ?_
           rintro rfl)
        | (with_reducible refine here_call ?_
           revert h
           with_reducible refine bind_elim ?_
           intro t ht h
           (first
             | (refine call_obj [0] (c_laws_markFuncS ht) (by decide) ?_ ?_
                · first | exact .inl rfl | (refine .inr ⟨?_, ?_⟩; (focus (first | rfl | (simp only [V.nb, V.nbL, D.nb, D.nbL, Md.nb, cI_nb, cB_nb, cS_nb, Bool.and_self, Bool.and_true, GI2_nb, GFunc_nb, GProgram_nb, LGI2_nb]; done))); (focus (simp [C.nb, V.nbLL, V.nbL, V.nb, D.nb]; done)))
                simp only [argsP, argP, V.namesOf, V.namesOfL, List.mem_append, List.append_nil, List.mem_cons, or_false, or_true, true_or, objsP, C.ren, V.ren, V.renL, renLL_dd, V.renLL, List.getD_cons_zero, List.getD_cons_succ, C.o.injEq, List.length_set, List.length_replicate, lendAL, lendA, Option.bind_some, Option.map_some, undd_dd, dd_length, dd_take, dd_drop, Rw_length, Rw_take, Rw_drop, Nat.zero_add, Nat.add_zero, Nat.le_refl, true_and, and_true, and_self, List.take_length, List.drop_zero, C.o.injEq, V.d.injEq, undd.unddR, List.getElem?_cons_zero, List.length_cons, List.length_nil, Nat.zero_le, D.lendL, D.lend, Md.lend, List.map_cons, List.map_nil, cI_lend, cB_lend, cS_lend, GI2_lend, GFunc_lend, GProgram_lend, LGI2_lend, putSt, lk, Res.s.injEq, Res.r.injEq, reduceCtorEq, Nat.reduceEqDiff, if_true, if_false, Prog.wp, Prog.wp_bind, Prog.bind, Prog.ofO, List.take_of_length_le, *])))
        | (with_reducible apply regD_opK
           · simp only [dstOk, Nat.reduceLT]
           · simp only [Nat.reduceAdd]; rfl
           intro k hk)
        | (with_reducible apply regW_opK
           · simp only [dstOk, Nat.reduceLT]
           · simp only [Nat.reduceAdd]; rfl
           intro k hk)
        | skip)
       simp only [RetW, bn, opC, opP, fetchN, fetchP, fetchAll, fetchO, Prog.bind, Prog.wp, Prog.wp_bind, lk, nameP, nameAll, Value.oneCell', putSt, stepP, putP, Res.s.injEq, Res.r.injEq, reduceCtorEq, V.lin, V.linL, D.lin, isNil, binP, unP, BinOp.isShift, Prog.ofO, true_and, and_true, Nat.reduceAdd, Nat.reduceMul, Nat.reduceSub, Nat.reduceLT, Nat.reduceLeDiff, Nat.reduceEqDiff, if_true, if_false, ite_true, ite_false, Bool.false_eq_true, Bool.not_true, Bool.not_false, Bool.or_false, Bool.or_true, fieldAddrP, fieldP, indexAddrP, loadP, storeP, boxP, allocP, cellsP, asVal, setSeg, outP, outT, cntT, TyK.field, TyK.agg, zeroRow, V.ren, V.renL, forall_eq_or_imp, implies_true, false_implies, forall_const, and_self, true_or, minmaxP, lenP, lenOf, lenStr, V.asInt, decide_true, decide_false, sliceP, boundP, makeSliceP, convertP, appendP, rowsOfP, ontoP, sizeFits, V.rowSize, TyK.src, resV, resV.go, resV.gol, retP, retOne, retAll, resTo, objsAre, Option.map_eq_map, Function.const_apply, Int.reduceNeg, Int.reduceToNat, ty2, ty3, ty28, ty30, ty63, ty65, ty107, GFunc.cells, GI2.cells, GProgram.cells, cI, cB, cS, cL, GI2_e, GFunc_e, GProgram_e, LGI2_e, *]
       try (refine hk.use _ _ _ _ ?_; clear hk k))
    | fail)
  all_goals (try rfl)
  all_goals (try (simp; done))
  all_goals (try (simp_all; done))

end Go.Proofs.Ytdlaplgofgklnaa
namespace Go.Proofs.Ytdlaplgofgklnaa
open Go.Proofs Go.Proofs.Ytdlaplgofgklnaa.L
set_option maxHeartbeats 1000000
set_option linter.unusedSimpArgs false
set_option linter.unusedVariables false
set_option maxRecDepth 100000

def laws_markInt64S.l1 : Nat → (List Int) → Int → Int → Option ((List Int) × Int)
  | 0, _, _, _ => none
  | k + 1, a1, a2, a3 => cond ((decide (a3 < ((a1.length : Int))))) ((idx a1 a3).bind fun m1 => laws_markInt64S.l1 k ((a1.set a3.toNat a2)) ((IntKind.i64.wrap (a2 + 1))) ((IntKind.i64.wrap (a3 + 1)))) (some (a1, a2))

def laws_markInt64S (k : Nat) (p0 : (List Int)) (p1 : Int) : Option (Int × (List Int)) :=
  (laws_markInt64S.l1 k p0 p1 0).bind fun o1 => some (o1.2, o1.1)

end Go.Proofs.Ytdlaplgofgklnaa
namespace Go.Proofs.Ytdlaplgofgklnaa
open Go.Proofs Go.Proofs.Ytdlaplgofgklnaa.L
set_option maxHeartbeats 1000000
set_option linter.unusedSimpArgs false
set_option linter.unusedVariables false
set_option maxRecDepth 100000

def laws_heldInt64S.l1 : Nat → (List Int) → Int → Int → Option ((Int) ⊕ (Int))
  | 0, _, _, _ => none
  | k + 1, a1, a2, a3 => cond ((decide (a3 < ((a1.length : Int))))) ((idx a1 a3).bind fun m1 => cond ((m1 != a2)) (some (.inl ((-1)))) (laws_heldInt64S.l1 k a1 ((IntKind.i64.wrap (a2 + 1))) ((IntKind.i64.wrap (a3 + 1))))) (some (.inr (a2)))

def laws_heldInt64S (k : Nat) (p0 : (List Int)) (p1 : Int) : Option (Int) :=
  (laws_heldInt64S.l1 k p0 p1 0).bind fun o1 => Sum.elim (fun o1l => some o1l) (fun o1r => some o1r) o1

end Go.Proofs.Ytdlaplgofgklnaa
namespace Go.Proofs.Ytdlaplgofgklnaa
open Go.Proofs Go.Proofs.Ytdlaplgofgklnaa.L
set_option maxHeartbeats 1000000
set_option linter.unusedSimpArgs false
set_option linter.unusedVariables false
set_option maxRecDepth 100000

def laws_FnExactPreds.a1 (k : Nat) (a1 : (List GFunc)) (a2 : (List Int)) (a3 : (List Int)) (a4 : Int) (a5 : Int) (a6 : Int) : Option ((Bool) ⊕ ((List GFunc) × (List Int) × (List Int) × Int × Int)) :=
  cond ((decide (a6 < 0))) (some (.inl (false))) ((laws_eqInt64S k a3 a2).bind fun t10 => cond ((!t10)) (some (.inl (false))) (some (.inr (a1, a2, a3, a4, a5))))

def laws_FnExactPreds (k : Nat) (p0 : GProgram) (p1 : Int) (p2 : Int) : Option (Bool) :=
  (laws_szProgram k p0 1048576).bind fun t1 => cond ((decide (t1 < 0))) (some true) ((laws_toProgram k p0).bind fun t2 => (spec_Preds k t2 p1 p2).bind fun t3 => (laws_toProgram k p0).bind fun t4 => (impl_Preds k t4 p1 p2).bind fun t5 => (laws_eqInt64S k t5 t3).bind fun t6 => cond ((!t6)) (some false) ((laws_toProgram k p0).bind fun t7 => (laws_eqProgram k t4 t7).bind fun t8 => cond ((!t8)) (some false) ((laws_markProgram k t4 1).bind fun t9 => gd (t9.2.length = t4.funcs.length) ((laws_FnExactPreds.a1 k p0.funcs t3 t5 p1 p2 t9.1).bind fun o1 => Sum.elim (fun o1l => some o1l) (fun o1r => (laws_markInt64S k o1r.2.2.1 1).bind fun t11 => gd (t11.2.length = o1r.2.2.1.length) ((laws_heldInt64S k t11.2 1).bind fun t12 => cond ((decide (t12 < 0))) (some false) (cond ((t12 != t11.1)) (some false) ((laws_toProgram k ((⟨o1r.1⟩ : GProgram))).bind fun t13 => (impl_Preds k t13 o1r.2.2.2.1 o1r.2.2.2.2).bind fun t14 => (laws_eqInt64S k t14 o1r.2.1).bind fun t15 => cond ((!t15)) (some false) ((laws_heldInt64S k t11.2 1).bind fun t16 => cond ((decide (t16 < 0))) (some false) (cond ((t16 != t11.1)) (some false) (some true))))))) o1))))

end Go.Proofs.Ytdlaplgofgklnaa
namespace Go.Proofs.Ytdlaplgofgklnaa
open Go.Proofs Go.Proofs.Ytdlaplgofgklnaa.L
set_option maxHeartbeats 1000000
set_option linter.unusedSimpArgs false
set_option linter.unusedVariables false
set_option maxRecDepth 100000

def spec_l08Bit (p0 : Int) : Option (Int) :=
  gd (0 ≤ ((IntKind.u64.wrap p0))) (some ((ishl .i64 1 ((IntKind.u64.wrap p0)))))

theorem c_spec_l08Bit {p0 : Int} {r : Int} (h : spec_l08Bit p0 = some r) : Con Try.prog 48 [V.int p0] [] (V.int r) [] := by
  refine con_of_sw Try.func48 rfl Try.call48 (by simp [Try.ntmps48]) (by simp [V.inNs, V.inN]) (by simp [C.inN, V.inNss, V.inNs, V.inN, inNss_dd]) (by simp [V.inNs, V.inN]) (by simp [C.inN, V.inNss, V.inNs, V.inN, inNss_dd]) rfl ?_
  rw [Try.ntmps48, Try.results48]
  unfold spec_l08Bit at h
  replace h := Yes.mk h
  simp only [entryS, entryO, Nat.reduceAdd, List.length_nil, List.length_cons]
  repeat' (first
    | with_reducible refine sw_reg ?_
    | with_reducible refine sw_ret ?_
    | with_reducible refine sw_skip ?_
    | with_reducible refine sw_block ?_
    | with_reducible refine sw_exit ?_
    | with_reducible refine seqQ_normal ?_
    | with_reducible refine blockQ_normal ?_
    | with_reducible refine blockQ_ret ?_
    | with_reducible refine blockQ_this ?_
    | with_reducible refine blockQ_other (by decide) ?_
    | with_reducible refine regW_nil ?_
    | with_reducible refine sw_draw mixed ?_
    | (with_reducible refine regD_nil ?_
       refine ⟨by kernel_rfl, ?_⟩)
    | with_reducible refine retQ_ret ?_
    | with_reducible refine retQ_normal ?_
    | (revert h; (first | ((with_reducible refine idx_elim ?_); intro m hm1 hm2 hm3 h; (try (simp only [Int.reduceToNat] at hm3)); (try (revert hm3; (with_reducible apply same_elim); (focus (with_reducible assumption)); rintro rfl)); (try (simp only [List.length_set, List.length_cons, List.length_nil, List.length_replicate, Nat.reduceAdd, Int.cast_ofNat_Int, Nat.zero_add, List.length_append] at hm2))) | (with_reducible refine sidx_elim ?_; intro m hm1 hm3 h) | (with_reducible refine gd_elim ?_; intro hg h; try (have hg2 := hg.2; have hg := hg.1; (try (simp only [Nat.reduceLeDiff] at hg2)); (try (revert hg2; (with_reducible refine toNat_elim hg ?_); intro hg2 hg4)); try (have hg3 := hg2.2; have hg2 := hg2.1; (try (simp only [Nat.reduceLeDiff] at hg3))))) | fail))
    | with_reducible refine sw_seq ?_
    | with_reducible refine seqQ_ret ?_
    | with_reducible refine seqQ_exit ?_
    | ((with_reducible refine wp_ite ?_ ?_)
       all_goals (intro hc; (try (simp only [Bool.not_eq_true, Bool.not_eq_false] at hc)); (try (revert h; first | (with_reducible refine condt_elim hc ?_; intro h) | (with_reducible refine condf_elim hc ?_; intro h) | fail)); simp only [hc]))
    | (with_reducible apply regW_skip
       · simp only [dstOk, Nat.reduceLT]
       · rfl
       · simp only [putSt, lk, Res.s.injEq, Res.r.injEq, reduceCtorEq, Nat.reduceEqDiff, if_true, if_false]; done)
    | (with_reducible apply regW_yesN
       · simp only [dstOk, Nat.reduceLT]
       · rfl
       · simp only [putSt, lk, Res.s.injEq, Res.r.injEq, reduceCtorEq, Nat.reduceEqDiff, if_true, if_false]; done)
    | (with_reducible apply regW_no
       · simp only [dstOk, Nat.reduceLT]
       · rfl
       · simp only [putSt, lk, Res.s.injEq, Res.r.injEq, reduceCtorEq, Nat.reduceEqDiff, if_true, if_false, Bool.not_true, Bool.not_false]; done)
    | (with_reducible apply regW_guardN
       · simp only [dstOk, Nat.reduceLT]
       · rfl
       · simp only [putSt, lk, Res.s.injEq, Res.r.injEq, reduceCtorEq, Nat.reduceEqDiff, if_true, if_false]; rfl
       all_goals (intro hc; (try (simp only [Bool.not_true, Bool.not_false] at hc)); (try (revert h; first | (with_reducible refine condt_elim hc ?_; intro h) | (with_reducible refine condf_elim hc ?_; intro h) | fail))))
    | ((with_reducible apply sw_cond
        · simp only [putSt, lk, Res.s.injEq, Res.r.injEq, reduceCtorEq, Nat.reduceEqDiff, if_true, if_false]; rfl
        all_goals (intro hc; try (cases hc; done)))
       all_goals (try (revert h; first | (with_reducible refine condt_elim hc ?_; intro h) | (with_reducible refine condf_elim hc ?_; intro h) | fail)))
    | ((first
        | ((with_reducible refine gh_ret ?_)
           revert h
           with_reducible refine some_elim ?_
           rintro rfl)
        | (with_reducible apply regD_opK
           · simp only [dstOk, Nat.reduceLT]
           · simp only [Nat.reduceAdd]; rfl
           intro k hk)
        | (with_reducible apply regW_opK
           · simp only [dstOk, Nat.reduceLT]
           · simp only [Nat.reduceAdd]; rfl
           intro k hk)
        | skip)
       simp only [RetW, bn, opC, opP, fetchN, fetchP, fetchAll, fetchO, Prog.bind, Prog.wp, Prog.wp_bind, lk, nameP, nameAll, Value.oneCell', putSt, stepP, putP, Res.s.injEq, Res.r.injEq, reduceCtorEq, V.lin, V.linL, D.lin, isNil, binP, unP, BinOp.isShift, Prog.ofO, true_and, and_true, Nat.reduceAdd, Nat.reduceMul, Nat.reduceSub, Nat.reduceLT, Nat.reduceLeDiff, Nat.reduceEqDiff, if_true, if_false, ite_true, ite_false, Bool.false_eq_true, Bool.not_true, Bool.not_false, Bool.or_false, Bool.or_true, fieldAddrP, fieldP, indexAddrP, loadP, storeP, boxP, allocP, cellsP, asVal, setSeg, outP, outT, cntT, TyK.field, TyK.agg, zeroRow, V.ren, V.renL, forall_eq_or_imp, implies_true, false_implies, forall_const, and_self, true_or, minmaxP, lenP, lenOf, lenStr, V.asInt, decide_true, decide_false, sliceP, boundP, makeSliceP, convertP, appendP, rowsOfP, ontoP, sizeFits, V.rowSize, TyK.src, resV, resV.go, resV.gol, retP, retOne, retAll, resTo, objsAre, Option.map_eq_map, Function.const_apply, Int.reduceNeg, Int.reduceToNat, ty2, ty41, cI, cB, cS, cL, shiftBin_shl, shiftBin_shr, intBin_quo, intBin_rem, Int.reduceLT, Int.reduceEq, not_false_eq_true, Int.not_lt, *]
       try (refine hk.use _ _ _ _ ?_; clear hk k))
    | fail)
  all_goals (try rfl)
  all_goals (try (simp; done))
  all_goals (try (simp_all; done))

end Go.Proofs.Ytdlaplgofgklnaa
namespace Go.Proofs.Ytdlaplgofgklnaa
open Go.Proofs Go.Proofs.Ytdlaplgofgklnaa.L
set_option maxHeartbeats 1000000
set_option linter.unusedSimpArgs false
set_option linter.unusedVariables false
set_option maxRecDepth 100000

def spec_l17Doms.l1 : Nat → (List Int) → (List (List Int)) → Int → Int → Option ((List Int) × (List (List Int)) × Int)
  | 0, _, _, _, _ => none
  | k + 1, a1, a2, a3, a4 => cond ((decide (a4 < ((a1.length : Int))))) ((idx a1 a4).bind fun m3 => cond ((decide (m3 ≥ 0))) ((spec_l08Bit a4).bind fun t4 => spec_l17Doms.l1 k a1 a2 ((ior .i64 a3 t4)) ((IntKind.i64.wrap (a4 + 1)))) (spec_l17Doms.l1 k a1 a2 a3 ((IntKind.i64.wrap (a4 + 1))))) (some (a1, a2, a3))

def spec_l17Doms.l2 : Nat → (List Int) → (List (List Int)) → (List Int) → Int → Int → Option ((List Int) × (List (List Int)) × (List Int) × Int)
  | 0, _, _, _, _, _ => none
  | k + 1, a1, a2, a3, a4, a5 => cond ((decide (a5 < ((a1.length : Int))))) ((idx a1 a5).bind fun m5 => cond ((decide (m5 ≥ 0))) ((idx a3 a5).bind fun m6 => spec_l17Doms.l2 k a1 a2 ((a3.set a5.toNat a4)) a4 ((IntKind.i64.wrap (a5 + 1)))) (spec_l17Doms.l2 k a1 a2 a3 a4 ((IntKind.i64.wrap (a5 + 1))))) (some (a1, a2, a3, a4))

def spec_l17Doms.l6 : Nat → (List Int) → (List (List Int)) → (List Int) → Int → Bool → Int → Int → Int → Option ((List Int) × (List (List Int)) × (List Int) × Int × Bool × Int × Int)
  | 0, _, _, _, _, _, _, _, _ => none
  | k + 1, a1, a2, a3, a4, a5, a6, a7, a8 => (idx a2 a6).bind fun m9 => cond ((decide (a8 < ((m9.length : Int))))) ((idx m9 a8).bind fun m10 => (idx a3 m10).bind fun m11 => spec_l17Doms.l6 k a1 ((a2.set a6.toNat m9)) a3 a4 a5 a6 ((iand .i64 a7 m11)) ((IntKind.i64.wrap (a8 + 1)))) (some (a1, (a2.set a6.toNat m9), a3, a4, a5, a6, a7))

def spec_l17Doms.a5 (k : Nat) (a1 : (List Int)) (a2 : (List (List Int))) (a3 : (List Int)) (a4 : Int) (a5 : Bool) (a6 : Int) : Option ((List Int) × (List (List Int)) × (List Int) × Int × Bool × Int) :=
  (idx a1 a6).bind fun m8 => cond ((decide (m8 < 0))) (some (a1, a2, a3, a4, a5, a6)) ((spec_l17Doms.l6 k a1 a2 a3 a4 a5 a6 a4 0).bind fun o6 => (spec_l08Bit o6.2.2.2.2.2.1).bind fun t12 => cond o6.2.2.2.2.1 ((idx o6.2.2.1 o6.2.2.2.2.2.1).bind fun m13 => some (o6.1, o6.2.1, (o6.2.2.1.set o6.2.2.2.2.2.1.toNat ((ior .i64 o6.2.2.2.2.2.2 t12))), o6.2.2.2.1, true, o6.2.2.2.2.2.1)) ((idx o6.2.2.1 o6.2.2.2.2.2.1).bind fun m14 => some (o6.1, o6.2.1, (o6.2.2.1.set o6.2.2.2.2.2.1.toNat ((ior .i64 o6.2.2.2.2.2.2 t12))), o6.2.2.2.1, (((ior .i64 o6.2.2.2.2.2.2 t12)) != m14), o6.2.2.2.2.2.1)))

def spec_l17Doms.l4 : Nat → (List Int) → (List (List Int)) → (List Int) → Int → Bool → Int → Option ((List Int) × (List (List Int)) × (List Int) × Int × Bool)
  | 0, _, _, _, _, _, _ => none
  | k + 1, a1, a2, a3, a4, a5, a6 => cond ((decide (a6 < ((a1.length : Int))))) ((spec_l17Doms.a5 k a1 a2 a3 a4 a5 a6).bind fun o5 => spec_l17Doms.l4 k o5.1 o5.2.1 o5.2.2.1 o5.2.2.2.1 o5.2.2.2.2.1 ((IntKind.i64.wrap (o5.2.2.2.2.2 + 1)))) (some (a1, a2, a3, a4, a5))

def spec_l17Doms.l3 : Nat → (List Int) → (List (List Int)) → (List Int) → Int → Bool → Option ((List Int))
  | 0, _, _, _, _, _ => none
  | k + 1, a1, a2, a3, a4, a5 => cond a5 ((spec_l17Doms.l4 k a1 a2 a3 a4 false 1).bind fun o4 => spec_l17Doms.l3 k o4.1 o4.2.1 o4.2.2.1 o4.2.2.2.1 o4.2.2.2.2) (some (a3))

def spec_l17Doms (k : Nat) (p0 : GProgram) (p1 : Int) : Option ((List Int)) :=
  (spec_l04Heights k p0 p1).bind fun t1 => (spec_l17Preds k p0 p1).bind fun t2 => (spec_l17Doms.l1 k t1.1 t2 0 0).bind fun o1 => gd (0 ≤ (o1.1.length : Int) ∧ ((o1.1.length : Int)) * 8 ≤ 35184372088832 ∧ (o1.1.length : Int) ≤ 35184372088832) ((spec_l17Doms.l2 k o1.1 o1.2.1 ((List.replicate o1.1.length 0)) o1.2.2 0).bind fun o2 => (idx o2.2.2.1 0).bind fun m7 => (spec_l17Doms.l3 k o2.1 o2.2.1 ((o2.2.2.1.set 0 1)) o2.2.2.2 true).bind fun o3 => some o3)

theorem c_spec_l17Doms {k : Nat} {p0 : GProgram} {p1 : Int} {r : (List Int)} (h : spec_l17Doms k p0 p1 = some r) : Con Try.prog 47 [.agg [.d (.row .bor 3 (Rw (GFunc.cells .bor) p0.funcs))], V.int p1] [] (.d (.row .own 1 (Rw (cI .i64) r))) [] := by
  refine con_of_sw Try.func47 rfl Try.call47 (by simp [Try.ntmps47]) (by simp [V.inNs, V.inN]) (by simp [C.inN, V.inNss, V.inNs, V.inN, inNss_dd]) (by simp [V.inNs, V.inN]) (by simp [C.inN, V.inNss, V.inNs, V.inN, inNss_dd]) rfl ?_
  rw [Try.ntmps47, Try.results47]
  unfold spec_l17Doms at h
  replace h := Yes.mk h
  simp only [entryS, entryO, Nat.reduceAdd, List.length_nil, List.length_cons]
  repeat' (first
    | with_reducible refine sw_reg ?_
    | with_reducible refine sw_ret ?_
    | with_reducible refine sw_skip ?_
    | with_reducible refine sw_block ?_
    | with_reducible refine sw_exit ?_
    | with_reducible refine seqQ_normal ?_
    | with_reducible refine blockQ_normal ?_
    | with_reducible refine blockQ_ret ?_
    | with_reducible refine blockQ_this ?_
    | with_reducible refine blockQ_other (by decide) ?_
    | with_reducible refine regW_nil ?_
    | with_reducible refine sw_draw mixed ?_
    | (with_reducible refine regD_nil ?_
       refine ⟨by kernel_rfl, ?_⟩)
    | with_reducible refine retQ_ret ?_
    | with_reducible refine retQ_normal ?_
    | (revert h; (first | ((with_reducible refine idx_elim ?_); intro m hm1 hm2 hm3 h; (try (simp only [Int.reduceToNat] at hm3)); (try (revert hm3; (with_reducible apply same_elim); (focus (with_reducible assumption)); rintro rfl)); (try (simp only [List.length_set, List.length_cons, List.length_nil, List.length_replicate, Nat.reduceAdd, Int.cast_ofNat_Int, Nat.zero_add, List.length_append] at hm2))) | (with_reducible refine sidx_elim ?_; intro m hm1 hm3 h) | (with_reducible refine gd_elim ?_; intro hg h; try (have hg2 := hg.2; have hg := hg.1; (try (simp only [Nat.reduceLeDiff] at hg2)); (try (revert hg2; (with_reducible refine toNat_elim hg ?_); intro hg2 hg4)); try (have hg3 := hg2.2; have hg2 := hg2.1; (try (simp only [Nat.reduceLeDiff] at hg3))))) | fail))
    | ((first | with_reducible refine seqQ_ret (K := (fun st1 n1 => Gh st1 n1 (NextS _ 60000000 _ _ _ _))) ?_ | with_reducible refine seqQ_exit (K := (fun st1 n1 => Gh st1 n1 (NextS _ 60000000 _ _ _ _))) ?_)
       obtain rfl := h.get
       have h := hK6
       (try (simp only [Sum.elim_inl, Sum.elim_inr] at h)))
    | ((first | with_reducible refine seqQ_ret (K := (fun st1 n1 => Gh st1 n1 (MeetA _ 50000000 _ _))) ?_ | with_reducible refine seqQ_exit (K := (fun st1 n1 => Gh st1 n1 (MeetA _ 50000000 _ _))) ?_)
       obtain rfl := h.get
       have h := hK5
       (try (simp only [Sum.elim_inl, Sum.elim_inr] at h)))
    | ((first | with_reducible refine seqQ_ret (K := (fun st1 n1 => Gh st1 n1 (NextS _ 40000000 _ _ _ _))) ?_ | with_reducible refine seqQ_exit (K := (fun st1 n1 => Gh st1 n1 (NextS _ 40000000 _ _ _ _))) ?_)
       obtain rfl := h.get
       have h := hK4
       (try (simp only [Sum.elim_inl, Sum.elim_inr] at h)))
    | ((first | with_reducible refine seqQ_ret (K := (fun st1 n1 => Gh st1 n1 (NextS _ 30000000 _ _ _ _))) ?_ | with_reducible refine seqQ_exit (K := (fun st1 n1 => Gh st1 n1 (NextS _ 30000000 _ _ _ _))) ?_)
       obtain rfl := h.get
       have h := hK3
       (try (simp only [Sum.elim_inl, Sum.elim_inr] at h)))
    | ((first | with_reducible refine seqQ_ret (K := (fun st1 n1 => Gh st1 n1 (NextS _ 20000000 _ _ _ _))) ?_ | with_reducible refine seqQ_exit (K := (fun st1 n1 => Gh st1 n1 (NextS _ 20000000 _ _ _ _))) ?_)
       obtain rfl := h.get
       have h := hK2
       (try (simp only [Sum.elim_inl, Sum.elim_inr] at h)))
    | ((first | with_reducible refine seqQ_ret (K := (fun st1 n1 => Gh st1 n1 (NextS _ 10000000 _ _ _ _))) ?_ | with_reducible refine seqQ_exit (K := (fun st1 n1 => Gh st1 n1 (NextS _ 10000000 _ _ _ _))) ?_)
       obtain rfl := h.get
       have h := hK1
       (try (simp only [Sum.elim_inl, Sum.elim_inr] at h)))
    | (with_reducible refine here_loop (c := (.seq (.seq (.region 25 _ _) _) _)) ?_
       skip
       revert h
       with_reducible refine bind_elimY ?_
       intro o6 h hK6
       refine sw_gh ?_
       (try (apply gh_resRow 832; (focus (simp only [putSt, lk, Res.s.injEq, Res.r.injEq, reduceCtorEq, Nat.reduceEqDiff, if_true, if_false]; try rfl)); (focus (first | (simp only [Rw_length, List.length_set]; omega) | (simp [Rw_length]; omega))); simp only [List.set_cons_zero, List.set_cons_succ, List.length_nil, List.length_cons, Nat.reduceAdd, Nat.reduceLeDiff, List.take_succ_cons, List.take_of_length_le, List.length_set, List.length_replicate, List.take_length, List.take_nil, List.take_zero, List.drop_nil, List.map_nil, List.map_cons, resSlotP, nameSlotP, Prog.wp, Prog.wp_bind, Prog.bind, Prog.ofO, putSt, lk, Res.s.injEq, Res.r.injEq, reduceCtorEq, Nat.reduceEqDiff, if_true, if_false, resV, resV.go, resV.gol, resGo_dd, dd_length, dd_take, dd_drop, dd_get, List.drop_zero, Rw_length, Rw_take, Rw_drop, Nat.zero_add, Nat.le_refl, true_and, and_true, and_self, nameAll, nameP, outP, outT, cntT, V.lin, D.lin, *, not_false_eq_true, List.not_mem_nil, List.mem_cons, reduceCtorEq, or_self, Nat.reduceEqDiff, List.map_cons, List.map_nil, GI2_Dset, GFunc_Dset, GProgram_Dset, GI3_Dset, LcIi64_Dset, LGI2_Dset]))
       refine gh_sw ?_
       refine sw_loop (ι := Nat × (List Int) × (List (List Int)) × (List Int) × Int × Bool × Int × Int × Int) 60000000 (by decide) (fun x : Nat × (List Int) × (List (List Int)) × (List Int) × Int × Bool × Int × Int × Int => [(.s 5, some (.v (.sl 256 1 0 x.2.1.length))), (.s 7, some (.v (.sl 832 1 0 x.2.2.1.length))), (.s 8, some (.v (V.int x.2.2.2.2.1))), (.s 10, some (.v (.sl 10000448 1 0 x.2.2.2.1.length))), (.s 12, some (.v (V.bool x.2.2.2.2.2.1))), (.s 13, some (.v (V.int x.2.2.2.2.2.2.1))), (.s 14, some (.v (V.int x.2.2.2.2.2.2.2.1))), (.s 15, some (.v (V.int x.2.2.2.2.2.2.2.2))), (.r 256, some (.o 1 (dd (Rw (cI .i64) x.2.1)))), (.r 832, some (.o 1 (dd (Rw (cL .own 1 (cI .i64)) x.2.2.1)))), (.r 10000448, some (.o 1 (dd (Rw (cI .i64) x.2.2.2.1))))]) (fun x => x.1) (fun x => Yes (spec_l17Doms.l6 x.1 x.2.1 x.2.2.1 x.2.2.2.1 x.2.2.2.2.1 x.2.2.2.2.2.1 x.2.2.2.2.2.2.1 x.2.2.2.2.2.2.2.1 x.2.2.2.2.2.2.2.2) o6) (_, _, _, _, _, _, _, _, _) ?_ h ?_ ?_
       · exact (by simp [slNL, C.inN, V.inN, V.inNs, V.inNss, inNss_dd, inNs_map_d])
       · simp only [SubL, putSt, lk, Res.s.injEq, Res.r.injEq, reduceCtorEq, Nat.reduceEqDiff, if_true, if_false, List.length_set, List.length_replicate]; repeat' (first | apply And.intro | rfl | trivial | (simp only [*]; done))
       rintro ⟨_ | k, a1, a2, a3, a4, a5, a6, a7, a8⟩ h
       · simp only [spec_l17Doms.l6] at h; exact h.none
       simp only [spec_l17Doms.l6] at h
)
    | (with_reducible refine here_next (N0 := 60000000) ?_
       skip
       (try (apply gh_resRow 832; (focus (simp only [putSt, lk, Res.s.injEq, Res.r.injEq, reduceCtorEq, Nat.reduceEqDiff, if_true, if_false]; try rfl)); (focus (first | (simp only [Rw_length, List.length_set]; omega) | (simp [Rw_length]; omega))); simp only [List.set_cons_zero, List.set_cons_succ, List.length_nil, List.length_cons, Nat.reduceAdd, Nat.reduceLeDiff, List.take_succ_cons, List.take_of_length_le, List.length_set, List.length_replicate, List.take_length, List.take_nil, List.take_zero, List.drop_nil, List.map_nil, List.map_cons, resSlotP, nameSlotP, Prog.wp, Prog.wp_bind, Prog.bind, Prog.ofO, putSt, lk, Res.s.injEq, Res.r.injEq, reduceCtorEq, Nat.reduceEqDiff, if_true, if_false, resV, resV.go, resV.gol, resGo_dd, dd_length, dd_take, dd_drop, dd_get, List.drop_zero, Rw_length, Rw_take, Rw_drop, Nat.zero_add, Nat.le_refl, true_and, and_true, and_self, nameAll, nameP, outP, outT, cntT, V.lin, D.lin, *, not_false_eq_true, List.not_mem_nil, List.mem_cons, reduceCtorEq, or_self, Nat.reduceEqDiff, List.map_cons, List.map_nil, GI2_Dset, GFunc_Dset, GProgram_Dset, GI3_Dset, LcIi64_Dset, LGI2_Dset]))
       refine nexts_to (_, _, _, _, _, _, _, _, _) (by decide) ?_ (Nat.lt_succ_self _) h ?_
       · exact (by simp [slNL, C.inN, V.inN, V.inNs, V.inNss, inNss_dd, inNs_map_d])
       · simp only [SubL, putSt, lk, Res.s.injEq, Res.r.injEq, reduceCtorEq, Nat.reduceEqDiff, if_true, if_false, List.length_set, List.length_replicate]; repeat' (first | apply And.intro | rfl | trivial | (simp only [*]; done)))
    | (with_reducible refine here_join (a := (.block 7 _)) (b := (.region 21 _ _)) ?_
       skip
       revert h
       with_reducible refine bind_elimY ?_
       intro o5 h hK5
       unfold spec_l17Doms.a5 at h
       refine sw_join (ι := (List Int) × (List (List Int)) × (List Int) × Int × Bool × Int) 50000000 (fun x : (List Int) × (List (List Int)) × (List Int) × Int × Bool × Int => [(.s 5, some (.v (.sl 256 1 0 x.1.length))), (.s 7, some (.v (.sl 832 1 0 x.2.1.length))), (.s 8, some (.v (V.int x.2.2.2.1))), (.s 10, some (.v (.sl 10000448 1 0 x.2.2.1.length))), (.s 12, some (.v (V.bool x.2.2.2.2.1))), (.s 13, some (.v (V.int x.2.2.2.2.2))), (.r 256, some (.o 1 (dd (Rw (cI .i64) x.1)))), (.r 832, some (.o 1 (dd (Rw (cL .own 1 (cI .i64)) x.2.1)))), (.r 10000448, some (.o 1 (dd (Rw (cI .i64) x.2.2.1))))]) (fun x => Yes (some (x)) o5) ?_ ?_
       rotate_left
       rintro ⟨b1, b2, b3, b4, b5, b6⟩ h
       obtain rfl := h.get
       have h := hK5
       (try (simp only [Sum.elim_inl, Sum.elim_inr] at h))
       refine sw_gh ?_
       refine gh_sw ?_
       skip)
    | (with_reducible refine here_meet (N0 := 50000000) ?_
       skip
       (try (apply gh_resRow 832; (focus (simp only [putSt, lk, Res.s.injEq, Res.r.injEq, reduceCtorEq, Nat.reduceEqDiff, if_true, if_false]; try rfl)); (focus (first | (simp only [Rw_length, List.length_set]; omega) | (simp [Rw_length]; omega))); simp only [List.set_cons_zero, List.set_cons_succ, List.length_nil, List.length_cons, Nat.reduceAdd, Nat.reduceLeDiff, List.take_succ_cons, List.take_of_length_le, List.length_set, List.length_replicate, List.take_length, List.take_nil, List.take_zero, List.drop_nil, List.map_nil, List.map_cons, resSlotP, nameSlotP, Prog.wp, Prog.wp_bind, Prog.bind, Prog.ofO, putSt, lk, Res.s.injEq, Res.r.injEq, reduceCtorEq, Nat.reduceEqDiff, if_true, if_false, resV, resV.go, resV.gol, resGo_dd, dd_length, dd_take, dd_drop, dd_get, List.drop_zero, Rw_length, Rw_take, Rw_drop, Nat.zero_add, Nat.le_refl, true_and, and_true, and_self, nameAll, nameP, outP, outT, cntT, V.lin, D.lin, *, not_false_eq_true, List.not_mem_nil, List.mem_cons, reduceCtorEq, or_self, Nat.reduceEqDiff, List.map_cons, List.map_nil, GI2_Dset, GFunc_Dset, GProgram_Dset, GI3_Dset, LcIi64_Dset, LGI2_Dset]))
       refine meet_to (_, _, _, _, _, _) (by decide) ?_ h ?_
       · exact (by simp [slNL, C.inN, V.inN, V.inNs, V.inNss, inNss_dd, inNs_map_d])
       · simp only [SubL, putSt, lk, Res.s.injEq, Res.r.injEq, reduceCtorEq, Nat.reduceEqDiff, if_true, if_false, List.length_set, List.length_replicate]; repeat' (first | apply And.intro | rfl | trivial | (simp only [*]; done)))
    | (with_reducible refine here_loop (c := (.seq (.seq (.region 20 _ _) _) _)) ?_
       skip
       revert h
       with_reducible refine bind_elimY ?_
       intro o4 h hK4
       refine sw_gh ?_
       (try (apply gh_resRow 832; (focus (simp only [putSt, lk, Res.s.injEq, Res.r.injEq, reduceCtorEq, Nat.reduceEqDiff, if_true, if_false]; try rfl)); (focus (first | (simp only [Rw_length, List.length_set]; omega) | (simp [Rw_length]; omega))); simp only [List.set_cons_zero, List.set_cons_succ, List.length_nil, List.length_cons, Nat.reduceAdd, Nat.reduceLeDiff, List.take_succ_cons, List.take_of_length_le, List.length_set, List.length_replicate, List.take_length, List.take_nil, List.take_zero, List.drop_nil, List.map_nil, List.map_cons, resSlotP, nameSlotP, Prog.wp, Prog.wp_bind, Prog.bind, Prog.ofO, putSt, lk, Res.s.injEq, Res.r.injEq, reduceCtorEq, Nat.reduceEqDiff, if_true, if_false, resV, resV.go, resV.gol, resGo_dd, dd_length, dd_take, dd_drop, dd_get, List.drop_zero, Rw_length, Rw_take, Rw_drop, Nat.zero_add, Nat.le_refl, true_and, and_true, and_self, nameAll, nameP, outP, outT, cntT, V.lin, D.lin, *, not_false_eq_true, List.not_mem_nil, List.mem_cons, reduceCtorEq, or_self, Nat.reduceEqDiff, List.map_cons, List.map_nil, GI2_Dset, GFunc_Dset, GProgram_Dset, GI3_Dset, LcIi64_Dset, LGI2_Dset]))
       refine gh_sw ?_
       refine sw_loop (ι := Nat × (List Int) × (List (List Int)) × (List Int) × Int × Bool × Int) 40000000 (by decide) (fun x : Nat × (List Int) × (List (List Int)) × (List Int) × Int × Bool × Int => [(.s 5, some (.v (.sl 256 1 0 x.2.1.length))), (.s 7, some (.v (.sl 832 1 0 x.2.2.1.length))), (.s 8, some (.v (V.int x.2.2.2.2.1))), (.s 10, some (.v (.sl 10000448 1 0 x.2.2.2.1.length))), (.s 12, some (.v (V.bool x.2.2.2.2.2.1))), (.s 13, some (.v (V.int x.2.2.2.2.2.2))), (.r 256, some (.o 1 (dd (Rw (cI .i64) x.2.1)))), (.r 832, some (.o 1 (dd (Rw (cL .own 1 (cI .i64)) x.2.2.1)))), (.r 10000448, some (.o 1 (dd (Rw (cI .i64) x.2.2.2.1))))]) (fun x => x.1) (fun x => Yes (spec_l17Doms.l4 x.1 x.2.1 x.2.2.1 x.2.2.2.1 x.2.2.2.2.1 x.2.2.2.2.2.1 x.2.2.2.2.2.2) o4) (_, _, _, _, _, _, _) ?_ h ?_ ?_
       · exact (by simp [slNL, C.inN, V.inN, V.inNs, V.inNss, inNss_dd, inNs_map_d])
       · simp only [SubL, putSt, lk, Res.s.injEq, Res.r.injEq, reduceCtorEq, Nat.reduceEqDiff, if_true, if_false, List.length_set, List.length_replicate]; repeat' (first | apply And.intro | rfl | trivial | (simp only [*]; done))
       rintro ⟨_ | k, a1, a2, a3, a4, a5, a6⟩ h
       · simp only [spec_l17Doms.l4] at h; exact h.none
       simp only [spec_l17Doms.l4] at h
)
    | (with_reducible refine here_next (N0 := 40000000) ?_
       skip
       (try (apply gh_resRow 832; (focus (simp only [putSt, lk, Res.s.injEq, Res.r.injEq, reduceCtorEq, Nat.reduceEqDiff, if_true, if_false]; try rfl)); (focus (first | (simp only [Rw_length, List.length_set]; omega) | (simp [Rw_length]; omega))); simp only [List.set_cons_zero, List.set_cons_succ, List.length_nil, List.length_cons, Nat.reduceAdd, Nat.reduceLeDiff, List.take_succ_cons, List.take_of_length_le, List.length_set, List.length_replicate, List.take_length, List.take_nil, List.take_zero, List.drop_nil, List.map_nil, List.map_cons, resSlotP, nameSlotP, Prog.wp, Prog.wp_bind, Prog.bind, Prog.ofO, putSt, lk, Res.s.injEq, Res.r.injEq, reduceCtorEq, Nat.reduceEqDiff, if_true, if_false, resV, resV.go, resV.gol, resGo_dd, dd_length, dd_take, dd_drop, dd_get, List.drop_zero, Rw_length, Rw_take, Rw_drop, Nat.zero_add, Nat.le_refl, true_and, and_true, and_self, nameAll, nameP, outP, outT, cntT, V.lin, D.lin, *, not_false_eq_true, List.not_mem_nil, List.mem_cons, reduceCtorEq, or_self, Nat.reduceEqDiff, List.map_cons, List.map_nil, GI2_Dset, GFunc_Dset, GProgram_Dset, GI3_Dset, LcIi64_Dset, LGI2_Dset]))
       refine nexts_to (_, _, _, _, _, _, _) (by decide) ?_ (Nat.lt_succ_self _) h ?_
       · exact (by simp [slNL, C.inN, V.inN, V.inNs, V.inNss, inNss_dd, inNs_map_d])
       · simp only [SubL, putSt, lk, Res.s.injEq, Res.r.injEq, reduceCtorEq, Nat.reduceEqDiff, if_true, if_false, List.length_set, List.length_replicate]; repeat' (first | apply And.intro | rfl | trivial | (simp only [*]; done)))
    | (with_reducible refine here_loop (c := (.seq (.seq (.region 17 _ _) _) _)) ?_
       skip
       revert h
       with_reducible refine bind_elimY ?_
       intro o3 h hK3
       refine sw_gh ?_
       (try (apply gh_resRow 832; (focus (simp only [putSt, lk, Res.s.injEq, Res.r.injEq, reduceCtorEq, Nat.reduceEqDiff, if_true, if_false]; try rfl)); (focus (first | (simp only [Rw_length, List.length_set]; omega) | (simp [Rw_length]; omega))); simp only [List.set_cons_zero, List.set_cons_succ, List.length_nil, List.length_cons, Nat.reduceAdd, Nat.reduceLeDiff, List.take_succ_cons, List.take_of_length_le, List.length_set, List.length_replicate, List.take_length, List.take_nil, List.take_zero, List.drop_nil, List.map_nil, List.map_cons, resSlotP, nameSlotP, Prog.wp, Prog.wp_bind, Prog.bind, Prog.ofO, putSt, lk, Res.s.injEq, Res.r.injEq, reduceCtorEq, Nat.reduceEqDiff, if_true, if_false, resV, resV.go, resV.gol, resGo_dd, dd_length, dd_take, dd_drop, dd_get, List.drop_zero, Rw_length, Rw_take, Rw_drop, Nat.zero_add, Nat.le_refl, true_and, and_true, and_self, nameAll, nameP, outP, outT, cntT, V.lin, D.lin, *, not_false_eq_true, List.not_mem_nil, List.mem_cons, reduceCtorEq, or_self, Nat.reduceEqDiff, List.map_cons, List.map_nil, GI2_Dset, GFunc_Dset, GProgram_Dset, GI3_Dset, LcIi64_Dset, LGI2_Dset]))
       refine gh_sw ?_
       refine sw_loop (ι := Nat × (List Int) × (List (List Int)) × (List Int) × Int × Bool) 30000000 (by decide) (fun x : Nat × (List Int) × (List (List Int)) × (List Int) × Int × Bool => [(.s 5, some (.v (.sl 256 1 0 x.2.1.length))), (.s 7, some (.v (.sl 832 1 0 x.2.2.1.length))), (.s 8, some (.v (V.int x.2.2.2.2.1))), (.s 10, some (.v (.sl 10000448 1 0 x.2.2.2.1.length))), (.s 12, some (.v (V.bool x.2.2.2.2.2))), (.r 256, some (.o 1 (dd (Rw (cI .i64) x.2.1)))), (.r 832, some (.o 1 (dd (Rw (cL .own 1 (cI .i64)) x.2.2.1)))), (.r 10000448, some (.o 1 (dd (Rw (cI .i64) x.2.2.2.1))))]) (fun x => x.1) (fun x => Yes (spec_l17Doms.l3 x.1 x.2.1 x.2.2.1 x.2.2.2.1 x.2.2.2.2.1 x.2.2.2.2.2) o3) (_, _, _, _, _, _) ?_ h ?_ ?_
       · exact (by simp [slNL, C.inN, V.inN, V.inNs, V.inNss, inNss_dd, inNs_map_d])
       · simp only [SubL, putSt, lk, Res.s.injEq, Res.r.injEq, reduceCtorEq, Nat.reduceEqDiff, if_true, if_false, List.length_set, List.length_replicate]; repeat' (first | apply And.intro | rfl | trivial | (simp only [*]; done))
       rintro ⟨_ | k, a1, a2, a3, a4, a5⟩ h
       · simp only [spec_l17Doms.l3] at h; exact h.none
       simp only [spec_l17Doms.l3] at h
)
    | (with_reducible refine here_next (N0 := 30000000) ?_
       skip
       (try (apply gh_resRow 832; (focus (simp only [putSt, lk, Res.s.injEq, Res.r.injEq, reduceCtorEq, Nat.reduceEqDiff, if_true, if_false]; try rfl)); (focus (first | (simp only [Rw_length, List.length_set]; omega) | (simp [Rw_length]; omega))); simp only [List.set_cons_zero, List.set_cons_succ, List.length_nil, List.length_cons, Nat.reduceAdd, Nat.reduceLeDiff, List.take_succ_cons, List.take_of_length_le, List.length_set, List.length_replicate, List.take_length, List.take_nil, List.take_zero, List.drop_nil, List.map_nil, List.map_cons, resSlotP, nameSlotP, Prog.wp, Prog.wp_bind, Prog.bind, Prog.ofO, putSt, lk, Res.s.injEq, Res.r.injEq, reduceCtorEq, Nat.reduceEqDiff, if_true, if_false, resV, resV.go, resV.gol, resGo_dd, dd_length, dd_take, dd_drop, dd_get, List.drop_zero, Rw_length, Rw_take, Rw_drop, Nat.zero_add, Nat.le_refl, true_and, and_true, and_self, nameAll, nameP, outP, outT, cntT, V.lin, D.lin, *, not_false_eq_true, List.not_mem_nil, List.mem_cons, reduceCtorEq, or_self, Nat.reduceEqDiff, List.map_cons, List.map_nil, GI2_Dset, GFunc_Dset, GProgram_Dset, GI3_Dset, LcIi64_Dset, LGI2_Dset]))
       refine nexts_to (_, _, _, _, _, _) (by decide) ?_ (Nat.lt_succ_self _) h ?_
       · exact (by simp [slNL, C.inN, V.inN, V.inNs, V.inNss, inNss_dd, inNs_map_d])
       · simp only [SubL, putSt, lk, Res.s.injEq, Res.r.injEq, reduceCtorEq, Nat.reduceEqDiff, if_true, if_false, List.length_set, List.length_replicate]; repeat' (first | apply And.intro | rfl | trivial | (simp only [*]; done)))
    | (with_reducible refine here_loop (c := (.seq (.seq (.region 11 _ _) _) _)) ?_
       skip
       revert h
       with_reducible refine bind_elimY ?_
       intro o2 h hK2
       refine sw_gh ?_
       (try (apply gh_resRow 832; (focus (simp only [putSt, lk, Res.s.injEq, Res.r.injEq, reduceCtorEq, Nat.reduceEqDiff, if_true, if_false]; try rfl)); (focus (first | (simp only [Rw_length, List.length_set]; omega) | (simp [Rw_length]; omega))); simp only [List.set_cons_zero, List.set_cons_succ, List.length_nil, List.length_cons, Nat.reduceAdd, Nat.reduceLeDiff, List.take_succ_cons, List.take_of_length_le, List.length_set, List.length_replicate, List.take_length, List.take_nil, List.take_zero, List.drop_nil, List.map_nil, List.map_cons, resSlotP, nameSlotP, Prog.wp, Prog.wp_bind, Prog.bind, Prog.ofO, putSt, lk, Res.s.injEq, Res.r.injEq, reduceCtorEq, Nat.reduceEqDiff, if_true, if_false, resV, resV.go, resV.gol, resGo_dd, dd_length, dd_take, dd_drop, dd_get, List.drop_zero, Rw_length, Rw_take, Rw_drop, Nat.zero_add, Nat.le_refl, true_and, and_true, and_self, nameAll, nameP, outP, outT, cntT, V.lin, D.lin, *, not_false_eq_true, List.not_mem_nil, List.mem_cons, reduceCtorEq, or_self, Nat.reduceEqDiff, List.map_cons, List.map_nil, GI2_Dset, GFunc_Dset, GProgram_Dset, GI3_Dset, LcIi64_Dset, LGI2_Dset]))
       refine gh_sw ?_
       refine sw_loop (ι := Nat × (List Int) × (List (List Int)) × (List Int) × Int × Int) 20000000 (by decide) (fun x : Nat × (List Int) × (List (List Int)) × (List Int) × Int × Int => [(.s 5, some (.v (.sl 256 1 0 x.2.1.length))), (.s 7, some (.v (.sl 832 1 0 x.2.2.1.length))), (.s 8, some (.v (V.int x.2.2.2.2.1))), (.s 10, some (.v (.sl 10000448 1 0 x.2.2.2.1.length))), (.s 11, some (.v (V.int x.2.2.2.2.2))), (.r 256, some (.o 1 (dd (Rw (cI .i64) x.2.1)))), (.r 832, some (.o 1 (dd (Rw (cL .own 1 (cI .i64)) x.2.2.1)))), (.r 10000448, some (.o 1 (dd (Rw (cI .i64) x.2.2.2.1))))]) (fun x => x.1) (fun x => Yes (spec_l17Doms.l2 x.1 x.2.1 x.2.2.1 x.2.2.2.1 x.2.2.2.2.1 x.2.2.2.2.2) o2) (_, _, _, _, _, _) ?_ h ?_ ?_
       · exact (by simp [slNL, C.inN, V.inN, V.inNs, V.inNss, inNss_dd, inNs_map_d])
       · simp only [SubL, putSt, lk, Res.s.injEq, Res.r.injEq, reduceCtorEq, Nat.reduceEqDiff, if_true, if_false, List.length_set, List.length_replicate]; repeat' (first | apply And.intro | rfl | trivial | (simp only [*]; done))
       rintro ⟨_ | k, a1, a2, a3, a4, a5⟩ h
       · simp only [spec_l17Doms.l2] at h; exact h.none
       simp only [spec_l17Doms.l2] at h
)
    | (with_reducible refine here_next (N0 := 20000000) ?_
       skip
       (try (apply gh_resRow 832; (focus (simp only [putSt, lk, Res.s.injEq, Res.r.injEq, reduceCtorEq, Nat.reduceEqDiff, if_true, if_false]; try rfl)); (focus (first | (simp only [Rw_length, List.length_set]; omega) | (simp [Rw_length]; omega))); simp only [List.set_cons_zero, List.set_cons_succ, List.length_nil, List.length_cons, Nat.reduceAdd, Nat.reduceLeDiff, List.take_succ_cons, List.take_of_length_le, List.length_set, List.length_replicate, List.take_length, List.take_nil, List.take_zero, List.drop_nil, List.map_nil, List.map_cons, resSlotP, nameSlotP, Prog.wp, Prog.wp_bind, Prog.bind, Prog.ofO, putSt, lk, Res.s.injEq, Res.r.injEq, reduceCtorEq, Nat.reduceEqDiff, if_true, if_false, resV, resV.go, resV.gol, resGo_dd, dd_length, dd_take, dd_drop, dd_get, List.drop_zero, Rw_length, Rw_take, Rw_drop, Nat.zero_add, Nat.le_refl, true_and, and_true, and_self, nameAll, nameP, outP, outT, cntT, V.lin, D.lin, *, not_false_eq_true, List.not_mem_nil, List.mem_cons, reduceCtorEq, or_self, Nat.reduceEqDiff, List.map_cons, List.map_nil, GI2_Dset, GFunc_Dset, GProgram_Dset, GI3_Dset, LcIi64_Dset, LGI2_Dset]))
       refine nexts_to (_, _, _, _, _, _) (by decide) ?_ (Nat.lt_succ_self _) h ?_
       · exact (by simp [slNL, C.inN, V.inN, V.inNs, V.inNss, inNss_dd, inNs_map_d])
       · simp only [SubL, putSt, lk, Res.s.injEq, Res.r.injEq, reduceCtorEq, Nat.reduceEqDiff, if_true, if_false, List.length_set, List.length_replicate]; repeat' (first | apply And.intro | rfl | trivial | (simp only [*]; done)))
    | (with_reducible refine here_loop (c := (.seq (.seq (.region 5 _ _) _) _)) ?_
       skip
       revert h
       with_reducible refine bind_elimY ?_
       intro o1 h hK1
       refine sw_gh ?_
       (try (apply gh_resRow 832; (focus (simp only [putSt, lk, Res.s.injEq, Res.r.injEq, reduceCtorEq, Nat.reduceEqDiff, if_true, if_false]; try rfl)); (focus (first | (simp only [Rw_length, List.length_set]; omega) | (simp [Rw_length]; omega))); simp only [List.set_cons_zero, List.set_cons_succ, List.length_nil, List.length_cons, Nat.reduceAdd, Nat.reduceLeDiff, List.take_succ_cons, List.take_of_length_le, List.length_set, List.length_replicate, List.take_length, List.take_nil, List.take_zero, List.drop_nil, List.map_nil, List.map_cons, resSlotP, nameSlotP, Prog.wp, Prog.wp_bind, Prog.bind, Prog.ofO, putSt, lk, Res.s.injEq, Res.r.injEq, reduceCtorEq, Nat.reduceEqDiff, if_true, if_false, resV, resV.go, resV.gol, resGo_dd, dd_length, dd_take, dd_drop, dd_get, List.drop_zero, Rw_length, Rw_take, Rw_drop, Nat.zero_add, Nat.le_refl, true_and, and_true, and_self, nameAll, nameP, outP, outT, cntT, V.lin, D.lin, *, not_false_eq_true, List.not_mem_nil, List.mem_cons, reduceCtorEq, or_self, Nat.reduceEqDiff, List.map_cons, List.map_nil, GI2_Dset, GFunc_Dset, GProgram_Dset, GI3_Dset, LcIi64_Dset, LGI2_Dset]))
       refine gh_sw ?_
       refine sw_loop (ι := Nat × (List Int) × (List (List Int)) × Int × Int) 10000000 (by decide) (fun x : Nat × (List Int) × (List (List Int)) × Int × Int => [(.s 5, some (.v (.sl 256 1 0 x.2.1.length))), (.s 7, some (.v (.sl 832 1 0 x.2.2.1.length))), (.s 8, some (.v (V.int x.2.2.2.1))), (.s 9, some (.v (V.int x.2.2.2.2))), (.r 256, some (.o 1 (dd (Rw (cI .i64) x.2.1)))), (.r 832, some (.o 1 (dd (Rw (cL .own 1 (cI .i64)) x.2.2.1))))]) (fun x => x.1) (fun x => Yes (spec_l17Doms.l1 x.1 x.2.1 x.2.2.1 x.2.2.2.1 x.2.2.2.2) o1) (_, _, _, _, _) ?_ h ?_ ?_
       · exact (by simp [slNL, C.inN, V.inN, V.inNs, V.inNss, inNss_dd, inNs_map_d])
       · simp only [SubL, putSt, lk, Res.s.injEq, Res.r.injEq, reduceCtorEq, Nat.reduceEqDiff, if_true, if_false, List.length_set, List.length_replicate]; repeat' (first | apply And.intro | rfl | trivial | (simp only [*]; done))
       rintro ⟨_ | k, a1, a2, a3, a4⟩ h
       · simp only [spec_l17Doms.l1] at h; exact h.none
       simp only [spec_l17Doms.l1] at h
)
    | (with_reducible refine here_next (N0 := 10000000) ?_
       skip
       (try (apply gh_resRow 832; (focus (simp only [putSt, lk, Res.s.injEq, Res.r.injEq, reduceCtorEq, Nat.reduceEqDiff, if_true, if_false]; try rfl)); (focus (first | (simp only [Rw_length, List.length_set]; omega) | (simp [Rw_length]; omega))); simp only [List.set_cons_zero, List.set_cons_succ, List.length_nil, List.length_cons, Nat.reduceAdd, Nat.reduceLeDiff, List.take_succ_cons, List.take_of_length_le, List.length_set, List.length_replicate, List.take_length, List.take_nil, List.take_zero, List.drop_nil, List.map_nil, List.map_cons, resSlotP, nameSlotP, Prog.wp, Prog.wp_bind, Prog.bind, Prog.ofO, putSt, lk, Res.s.injEq, Res.r.injEq, reduceCtorEq, Nat.reduceEqDiff, if_true, if_false, resV, resV.go, resV.gol, resGo_dd, dd_length, dd_take, dd_drop, dd_get, List.drop_zero, Rw_length, Rw_take, Rw_drop, Nat.zero_add, Nat.le_refl, true_and, and_true, and_self, nameAll, nameP, outP, outT, cntT, V.lin, D.lin, *, not_false_eq_true, List.not_mem_nil, List.mem_cons, reduceCtorEq, or_self, Nat.reduceEqDiff, List.map_cons, List.map_nil, GI2_Dset, GFunc_Dset, GProgram_Dset, GI3_Dset, LcIi64_Dset, LGI2_Dset]))
       refine nexts_to (_, _, _, _, _) (by decide) ?_ (Nat.lt_succ_self _) h ?_
       · exact (by simp [slNL, C.inN, V.inN, V.inNs, V.inNss, inNss_dd, inNs_map_d])
       · simp only [SubL, putSt, lk, Res.s.injEq, Res.r.injEq, reduceCtorEq, Nat.reduceEqDiff, if_true, if_false, List.length_set, List.length_replicate]; repeat' (first | apply And.intro | rfl | trivial | (simp only [*]; done)))
    | with_reducible refine sw_seq ?_
    | with_reducible refine seqQ_ret ?_
    | with_reducible refine seqQ_exit ?_
    | (with_reducible refine gh_nilRow 4 .own 1 ?_ ?_
       · simp only [putSt, lk, Res.s.injEq, Res.r.injEq, reduceCtorEq, Nat.reduceEqDiff, if_true, if_false]; done
       skip)
    | ((with_reducible refine wp_ite ?_ ?_)
       all_goals (intro hc; (try (simp only [Bool.not_eq_true, Bool.not_eq_false] at hc)); (try (revert h; first | (with_reducible refine condt_elim hc ?_; intro h) | (with_reducible refine condf_elim hc ?_; intro h) | fail)); simp only [hc]))
    | (with_reducible apply regW_skip
       · simp only [dstOk, Nat.reduceLT]
       · rfl
       · simp only [putSt, lk, Res.s.injEq, Res.r.injEq, reduceCtorEq, Nat.reduceEqDiff, if_true, if_false]; done)
    | (with_reducible apply regW_yesN
       · simp only [dstOk, Nat.reduceLT]
       · rfl
       · simp only [putSt, lk, Res.s.injEq, Res.r.injEq, reduceCtorEq, Nat.reduceEqDiff, if_true, if_false]; done)
    | (with_reducible apply regW_no
       · simp only [dstOk, Nat.reduceLT]
       · rfl
       · simp only [putSt, lk, Res.s.injEq, Res.r.injEq, reduceCtorEq, Nat.reduceEqDiff, if_true, if_false, Bool.not_true, Bool.not_false]; done)
    | (with_reducible apply regW_guardN
       · simp only [dstOk, Nat.reduceLT]
       · rfl
       · simp only [putSt, lk, Res.s.injEq, Res.r.injEq, reduceCtorEq, Nat.reduceEqDiff, if_true, if_false]; rfl
       all_goals (intro hc; (try (simp only [Bool.not_true, Bool.not_false] at hc)); (try (revert h; first | (with_reducible refine condt_elim hc ?_; intro h) | (with_reducible refine condf_elim hc ?_; intro h) | fail))))
    | ((with_reducible apply sw_cond
        · simp only [putSt, lk, Res.s.injEq, Res.r.injEq, reduceCtorEq, Nat.reduceEqDiff, if_true, if_false]; rfl
        all_goals (intro hc; try (cases hc; done)))
       all_goals (try (revert h; first | (with_reducible refine condt_elim hc ?_; intro h) | (with_reducible refine condf_elim hc ?_; intro h) | fail)))
    | ((first
        | ((with_reducible refine gh_ret ?_)
           revert h
           with_reducible refine some_elim ?_
           rintro rfl)
        | (with_reducible refine here_call ?_
           revert h
           with_reducible refine bind_elim ?_
           intro t ht h
           (first
             | (refine call_dataE (c_spec_l17Preds ht) ?_ rfl ?_
                · first | rfl | (simp; done))
             | (refine call_dataE (c_spec_l04Heights ht) ?_ rfl ?_
                · first | rfl | (simp; done))
             | (refine call_dataE (c_spec_l08Bit ht) ?_ rfl ?_
                · first | rfl | (simp; done))))
        | (with_reducible apply regD_opK
           · simp only [dstOk, Nat.reduceLT]
           · simp only [Nat.reduceAdd]; rfl
           intro k hk)
        | (with_reducible apply regW_opK
           · simp only [dstOk, Nat.reduceLT]
           · simp only [Nat.reduceAdd]; rfl
           intro k hk)
        | skip)
       simp only [RetW, bn, opC, opP, fetchN, fetchP, fetchAll, fetchO, Prog.bind, Prog.wp, Prog.wp_bind, lk, nameP, nameAll, Value.oneCell', putSt, stepP, putP, Res.s.injEq, Res.r.injEq, reduceCtorEq, V.lin, V.linL, D.lin, isNil, binP, unP, BinOp.isShift, Prog.ofO, true_and, and_true, Nat.reduceAdd, Nat.reduceMul, Nat.reduceSub, Nat.reduceLT, Nat.reduceLeDiff, Nat.reduceEqDiff, if_true, if_false, ite_true, ite_false, Bool.false_eq_true, Bool.not_true, Bool.not_false, Bool.or_false, Bool.or_true, fieldAddrP, fieldP, indexAddrP, loadP, storeP, boxP, allocP, cellsP, asVal, setSeg, outP, outT, cntT, TyK.field, TyK.agg, zeroRow, V.ren, V.renL, forall_eq_or_imp, implies_true, false_implies, forall_const, and_self, true_or, minmaxP, lenP, lenOf, lenStr, V.asInt, decide_true, decide_false, sliceP, boundP, makeSliceP, convertP, appendP, rowsOfP, ontoP, sizeFits, V.rowSize, TyK.src, resV, resV.go, resV.gol, retP, retOne, retAll, resTo, objsAre, Option.map_eq_map, Function.const_apply, Int.reduceNeg, Int.reduceToNat, ty2, ty3, ty26, ty28, ty30, ty53, ty63, ty65, ty77, ty107, GFunc.cells, GI2.cells, GI3.cells, GProgram.cells, cI, cB, cS, cL, GI2_e, GFunc_e, GProgram_e, GI3_e, LcIi64_e, LGI2_e, nilEqP, ne_eq, not_false_eq_true, not_true_eq_false, *]
       try (refine hk.use _ _ _ _ ?_; clear hk k))
    | fail)
  all_goals (try rfl)
  all_goals (try (simp; done))
  all_goals (try (simp_all; done))

end Go.Proofs.Ytdlaplgofgklnaa
namespace Go.Proofs.Ytdlaplgofgklnaa
open Go.Proofs Go.Proofs.Ytdlaplgofgklnaa.L
set_option maxHeartbeats 1000000
set_option linter.unusedSimpArgs false
set_option linter.unusedVariables false
set_option maxRecDepth 100000

def spec_Doms (k : Nat) (p0 : GProgram) (p1 : Int) : Option ((List Int)) :=
  (spec_l04Is k p0 p1).bind fun t1 => cond ((!t1)) (some []) ((spec_l17Doms k p0 p1).bind fun t2 => some t2)

end Go.Proofs.Ytdlaplgofgklnaa
