/- WHAT IS PROVED: an abstract walker over the model, what some functions of the program answer, and laws of these answers. Conditions: none. -/
import Derived.Test.YtdlaplgofgklnaaGreatKf6
import Derived.Test.YtdlaplgofgklnaaGreatKf7
namespace Go.Proofs.YtdlaplgofgklnaaGreat
open Go.Proofs Go.Proofs.YtdlaplgofgklnaaGreat.L
set_option maxHeartbeats 8000000
set_option linter.unusedSimpArgs false
set_option linter.unusedVariables false
set_option maxRecDepth 100000
set_option linter.defProp false
def spec_l01Src_l03Spoil.l1 : Nat → Gl01Src → GProgram → Option (Gl01Src × GProgram)
  | 0, _, _ => none
  | k + 1, a1, a2 => (spec_l01Src_n k a1 2).bind fun t14 => cond ((decide (((a2.funcs.length : Int)) < ((IntKind.i64.wrap (6 + t14.1)))))) ((idx a2.funcs 0).bind fun m15 => gd ((a2.funcs.length + 1) * 40 ≤ 35184372088832 ∧ a2.funcs.length + 1 ≤ 35184372088832) (spec_l01Src_l03Spoil.l1 k t14.2 ((⟨(a2.funcs ++ [m15])⟩ : GProgram)))) (some (t14.2, a2))
def spec_l01Src_l03Spoil (k : Nat) (p0 : Gl01Src) (p1 : GProgram) : Option (Gl01Src × GProgram) :=
  (spec_l01Src_n k p0 ((p1.funcs.length : Int))).bind fun t1 => (idx p1.funcs t1.1).bind fun m2 => (spec_l01Src_n k t1.2 ((m2.code.length : Int))).bind fun t3 => (spec_l01Src_n k t3.2 8).bind fun t4 => cond ((t4.1 == 0)) ((spec_l01Src_n k t4.2 42).bind fun t5 => (idx m2.code t3.1).bind fun m6 => some (t5.2, (⟨(p1.funcs.set t1.1.toNat (⟨m2.args, m2.locals, (m2.code.set t3.1.toNat ((⟨(IntKind.i64.wrap (t5.1 - 1)), m6.b⟩ : GI2)))⟩ : GFunc))⟩ : GProgram))) (cond ((t4.1 == 1)) ((spec_l01Src_n k t4.2 70).bind fun t7 => (idx m2.code t3.1).bind fun m8 => some (t7.2, (⟨(p1.funcs.set t1.1.toNat (⟨m2.args, m2.locals, (m2.code.set t3.1.toNat ((⟨m8.a, (IntKind.i64.wrap (t7.1 - 2))⟩ : GI2)))⟩ : GFunc))⟩ : GProgram))) (cond ((t4.1 == 2)) ((spec_l01Src_n k t4.2 7).bind fun t9 => some (t9.2, (⟨(p1.funcs.set t1.1.toNat (⟨(IntKind.i64.wrap (t9.1 - 1)), m2.locals, m2.code⟩ : GFunc))⟩ : GProgram))) (cond ((t4.1 == 3)) ((spec_l01Src_n k t4.2 4).bind fun t10 => (idx ([(-1), 0, 8, 9]) t10.1).bind fun m11 => some (t10.2, (⟨(p1.funcs.set t1.1.toNat (⟨m2.args, m11, m2.code⟩ : GFunc))⟩ : GProgram))) (cond ((t4.1 == 4)) (gd (0 ≤ t3.1 ∧ t3.1 ≤ (m2.code.length : Int)) (some (t4.2, (⟨(p1.funcs.set t1.1.toNat (⟨m2.args, m2.locals, (m2.code.take t3.1.toNat)⟩ : GFunc))⟩ : GProgram)))) (cond ((t4.1 == 5)) (gd ((m2.code.length + 1) * 16 ≤ 35184372088832 ∧ m2.code.length + 1 ≤ 35184372088832) (some (t4.2, (⟨(p1.funcs.set t1.1.toNat ((⟨m2.args, m2.locals, (m2.code ++ [(⟨5, 0⟩ : GI2)])⟩ : GFunc)))⟩ : GProgram)))) (cond ((t4.1 == 6)) ((spec_l01Src_n k t4.2 ((m2.code.length : Int))).bind fun t12 => (idx m2.code t3.1).bind fun m13 => some (t12.2, (⟨(p1.funcs.set t1.1.toNat (⟨m2.args, m2.locals, (m2.code.set t3.1.toNat ((⟨30, t12.1⟩ : GI2)))⟩ : GFunc))⟩ : GProgram))) ((spec_l01Src_l03Spoil.l1 k t4.2 ((⟨(p1.funcs.set t1.1.toNat m2)⟩ : GProgram))).bind fun o1 => some (o1.1, o1.2))))))))
theorem c_spec_l01Src_l03Spoil {k : Nat} {p0 : Gl01Src} {p1 : GProgram} {r : Gl01Src × GProgram} (h : spec_l01Src_l03Spoil k p0 p1 = some r) : Con Tryz.prog 104 [.mp 0 4 0 0, .mp 1 1 0 0] [.o 4 [[.d (.row .bor 1 (Rw (cI .u8) p0.b)), V.int p0.at0, .d (.p (.int .u64 p0.mix)), V.int p0.size]], .o 1 [[.d (.row .own 3 (Rw (GFunc.cells .own) p1.funcs))]]] (.tup []) [.o 4 [[.d (.row .bor 1 (Rw (cI .u8) r.1.b)), V.int r.1.at0, .d (.p (.int .u64 r.1.mix)), V.int r.1.size]], .o 1 [[.d (.row .frz 3 (Rw (GFunc.cells .frz) r.2.funcs))]]] := by
  refine csw Tryz.func104 Tryz.call104 (by simp [Tryz.ntmps104]) (h := ?_)
  rw [Tryz.ntmps104, Tryz.results104]
  unfold spec_l01Src_l03Spoil at h
  replace h := Yes.mk h
  simp only [entryS, entryO, Nat.reduceAdd, List.length_nil, List.length_cons]
  repeat' (first
 | (with_reducible refine here_reg (i := 0) ?_
    refine sw_gh ?_
    with_reducible apply gh_nameCell 1 0
    · simp only [lkd, lkb, reduceCtorEq, Nat.reduceEqDiff]; rfl
    · rfl
    simp only [List.set_cons_zero, List.set_cons_succ, Nat.reduceAdd, Rw_length]
    refine gh_sw ?_)
 | (with_reducible refine here_reg (i := 3) ?_
    refine sw_gh ?_
    with_reducible apply gh_nameCell 1 0
    · simp only [lkd, lkb, reduceCtorEq, Nat.reduceEqDiff]; rfl
    · rfl
    simp only [List.set_cons_zero, List.set_cons_succ, Nat.reduceAdd, Rw_length]
    refine gh_sw ?_)
 | (with_reducible (first | refine sw_reg ?_ | refine sw_ret ?_ | refine sw_skip ?_ | refine sw_block ?_ | refine sw_exit ?_ | refine seqQ_normal ?_ | refine blockQ_normal ?_ | refine blockQ_ret ?_ | refine blockQ_this ?_ | refine blockQ_other (by decide) ?_ | refine regW_nil ?_ | refine sw_draw mixed ?_ | refine retQ_ret ?_ | refine retQ_normal ?_))
 | (with_reducible refine regD_nil ?_
    refine ⟨by kernel_rfl, ?_⟩)
 | (revert h; (first | ((with_reducible refine idx_elim ?_); intro m hm1 hm2 hm3 h; (try (simp only [Int.reduceToNat] at hm3)); (try (revert hm3; (with_reducible apply same_elim); (focus (with_reducible assumption)); rintro rfl)); (try (simp only [List.length_set, List.length_cons, List.length_nil, List.length_replicate, Nat.reduceAdd, Int.cast_ofNat_Int, Nat.zero_add, List.length_append] at hm2))) | (with_reducible refine sidx_elim ?_; intro m hm1 hm3 h) | (with_reducible refine gd_elim ?_; intro hg h; try (have hg2 := hg.2; have hg := hg.1; (try (simp only [Nat.reduceLeDiff] at hg2)); (try (revert hg2; (with_reducible refine toNat_elim hg ?_); intro hg2 hg4)); try (have hg3 := hg2.2; have hg2 := hg2.1; (try (simp only [Nat.reduceLeDiff] at hg3))))) | (with_reducible refine condt_elim ?_ ?_; (focus (with_reducible assumption)); intro h) | (with_reducible refine condf_elim ?_ ?_; (focus (with_reducible assumption)); intro h)))
 | ((first | with_reducible refine seqQ_ret (K := (fun st1 n1 => Gh st1 n1 (NextS _ 10000000 _ _ _ _))) ?_ | with_reducible refine seqQ_exit (K := (fun st1 n1 => Gh st1 n1 (NextS _ 10000000 _ _ _ _))) ?_)
    obtain rfl := h.get
    have h := hK1
    (try (simp only [Sum.elim_inl, Sum.elim_inr] at h)))
 | (with_reducible refine here_loop (c := (.seq (.seq (.region 3 _ _) _) _)) ?_
    skip
    revert h
    with_reducible refine bind_elimY ?_
    intro o1 h hK1
    refine sw_gh ?_
    (try (apply gh_resRow 2; (focus (simp only [lkd, lkb, reduceCtorEq, Nat.reduceEqDiff]; try rfl)); (focus (first | (simp only [Rw_length, List.length_set]; omega) | (simp [Rw_length]; omega))); simp only [rxb, Nat.reduceAdd, Nat.reduceLeDiff, rxd, lkd, lkb, reduceCtorEq, Nat.reduceEqDiff, *, mmb, Gl01Src_Dset, GI2_Dset, GFunc_Dset, GProgram_Dset, LcIi64_Dset]))
    (try (apply gh_resSl 1 0; (focus (simp only [lkd, lkb, reduceCtorEq, Nat.reduceEqDiff]; try rfl)); (focus rfl); simp only [rxb, Nat.reduceAdd, Nat.reduceLeDiff, rxd, lkd, lkb, reduceCtorEq, Nat.reduceEqDiff, *, mmb, Gl01Src_Dset, GI2_Dset, GFunc_Dset, GProgram_Dset, LcIi64_Dset]))
    (apply gh_frz 1 0; (focus (simp only [lkd, lkb, reduceCtorEq, Nat.reduceEqDiff]; try rfl)); (focus rfl); (focus (exact .inn)); simp only [List.set_cons_zero, List.set_cons_succ, Md.fz, Gl01Src_frz, GI2_frz, GFunc_frz, GProgram_frz, LcIi64_frz])
    refine gh_sw ?_
    refine sw_loop (ι := Nat × Gl01Src × GProgram) 10000000 (by decide) (fun x : Nat × Gl01Src × GProgram => [(.s 0, some (.v (.mp 0 4 0 0))), (.s 1, some (.v (.mp 1 1 0 0))), (.r 0, some (.o 4 [[.d (.row .bor 1 (Rw (cI .u8) x.2.1.b)), V.int x.2.1.at0, .d (.p (.int .u64 x.2.1.mix)), V.int x.2.1.size]])), (.r 1, some (.o 1 [[.d (.row .own 3 (Rw (GFunc.cells .frz) x.2.2.funcs))]]))]) (fun x => x.1) (fun x => Yes (spec_l01Src_l03Spoil.l1 x.1 x.2.1 x.2.2) o1) (_, _, _) ?_ h ?_ ?_
    · exact (by simp [sld])
    · simp only [SubL, lkd, lkb, reduceCtorEq, Nat.reduceEqDiff, List.length_set, List.length_replicate]; repeat' (first | apply And.intro | rfl | trivial | (simp only [*]; done))
    rintro ⟨_ | k, a1, a2⟩ h
    · simp only [spec_l01Src_l03Spoil.l1] at h; exact h.none
    simp only [spec_l01Src_l03Spoil.l1] at h
)
 | (with_reducible refine here_next (N0 := 10000000) ?_
    skip
    refine nexts_to (_, _, _) (by decide) ?_ (Nat.lt_succ_self _) h ?_
    · exact (by simp [sld])
    · simp only [SubL, lkd, lkb, reduceCtorEq, Nat.reduceEqDiff, List.length_set, List.length_replicate]; repeat' (first | apply And.intro | rfl | trivial | (simp only [*]; done)))
 | with_reducible refine sw_seq ?_
 | with_reducible refine seqQ_ret ?_
 | with_reducible refine seqQ_exit ?_
 | (with_reducible refine here_retw ?_
    with_reducible apply gh_resRow 2
    · simp only [lkd, lkb, reduceCtorEq, Nat.reduceEqDiff]; rfl
    · first | (simp only [Rw_length, List.length_set]; omega) | (simp [Rw_length]; omega)
    simp only [rxb, Nat.reduceAdd, Nat.reduceLeDiff, rxd, lkd, lkb, reduceCtorEq, Nat.reduceEqDiff, mmb, Gl01Src_Dset, GI2_Dset, GFunc_Dset, GProgram_Dset, LcIi64_Dset, *])
 | (with_reducible refine here_retw ?_
    with_reducible apply gh_resSl 1 0
    · simp only [lkd, lkb, reduceCtorEq, Nat.reduceEqDiff]; rfl
    · rfl
    simp only [rxb, Nat.reduceAdd, Nat.reduceLeDiff, rxd, lkd, lkb, reduceCtorEq, Nat.reduceEqDiff, *])
 | (with_reducible refine here_retw ?_
    with_reducible apply gh_frz 1 0
    · simp only [lkd, lkb, reduceCtorEq, Nat.reduceEqDiff]; rfl
    · rfl
    · exact .all
    simp only [List.set_cons_zero, List.set_cons_succ, Md.fz, Gl01Src_frz, GI2_frz, GFunc_frz, GProgram_frz, LcIi64_frz])
 | ((with_reducible refine wp_ite ?_ ?_)
    all_goals (intro hc; (try (simp only [Bool.not_eq_true, Bool.not_eq_false] at hc)); simp only [hc]))
 | (with_reducible refine rskip (hs := ?_) (h2 := ?_)
    · simp only [lkd, lkb, reduceCtorEq, Nat.reduceEqDiff]; done)
 | (with_reducible refine ryes (hs := ?_) (h := ?_)
    · simp only [lkd, lkb, reduceCtorEq, Nat.reduceEqDiff]; done)
 | (with_reducible refine rno (hs := ?_) (h := ?_)
    · simp only [lkd, lkb, reduceCtorEq, Nat.reduceEqDiff, Bool.not_true, Bool.not_false]; done)
 | (with_reducible apply regW_guardN
    · simp only [dstOk, Nat.reduceLT]
    · rfl
    · simp only [lkd, lkb, reduceCtorEq, Nat.reduceEqDiff]; rfl
    all_goals (intro hc; (try (simp only [Bool.not_true, Bool.not_false] at hc))))
 | (with_reducible apply sw_cond
    · simp only [lkd, lkb, reduceCtorEq, Nat.reduceEqDiff]; rfl
    all_goals (intro hc; try (cases hc; done)))
 | ((first
     | ((with_reducible refine gh_ret ?_)
        revert h
        with_reducible refine some_elim ?_
        rintro rfl)
     | (with_reducible refine here_call ?_
        revert h
        with_reducible refine bind_elim ?_
        intro t ht h
        (first
          | ((with_reducible refine here_call (f := 98) ?_)
             refine call_obj [0] (c_spec_l01Src_n ht) (by decide) ?_ ?_
             · first | exact .inl rfl | (refine .inr ⟨?_, ?_⟩; (focus (first | rfl | (simp only [nbd, nbb, Gl01Src_nb, GI2_nb, GFunc_nb, GProgram_nb, LcIi64_nb]; done))); (focus (simp [C.nb, V.nbLL, V.nbL, V.nb, D.nb]; done)))
             simp only [obd, hyb, hyd, Gl01Src_lend, GI2_lend, GFunc_lend, GProgram_lend, LcIi64_lend, Nat.add_sub_cancel', lkd, lkb, reduceCtorEq, Nat.reduceEqDiff, Prog.wp, Prog.wp_bind, Prog.bind, Prog.ofO, List.take_of_length_le, *])))
     | (with_reducible (first | refine ropD (h := ?_) | refine ropW (h := ?_))
        intro k hk)
     | skip)
    simp only [bn, lkb, evb, evd, Value.oneCell', setSeg, reduceCtorEq, Nat.reduceAdd, Nat.reduceMul, Nat.reduceSub, Nat.reduceLT, Nat.reduceLeDiff, Nat.reduceEqDiff, Int.reduceNeg, Int.reduceToNat, ty2, ty3, ty4, ty5, ty22, ty23, ty25, ty28, ty85, ty92, ty94, ty98, ty138, ty140, ty149, GFunc.cells, GI2.cells, GProgram.cells, Gl01Src.cells, cI, cB, cS, cL, Gl01Src_e, GI2_e, GFunc_e, GProgram_e, LcIi64_e, buildP, buildSliceP, putParts, structPlaces, chunks, List.replicate, List.flatten_nil, List.flatten_cons, Option.bind_some, bb, GI2_b, GFunc_b, List.length_take, Nat.min_eq_left, nilEqP, ne_eq, not_false_eq_true, not_true_eq_false, Gl01Src_fset, Gl01Src_fone, Gl01Src_fcons, Gl01Src_fdone, Gl01Src_fdcons, GFunc_fset, GFunc_fone, GFunc_fcons, GFunc_fdone, GFunc_fdcons, GProgram_fset, GProgram_fone, GProgram_fcons, GProgram_fdone, GProgram_fdcons, *]
    try (refine hk.use _ _ _ _ ?_; clear hk k))
 | fail)
  all_goals (try rfl)
  all_goals (try (simp; done))
  all_goals (try (simp_all; done))
set_option linter.defProp false
def impl_run_here_v0F0c0n1 (p0 : Grun) : Option (GFrame × GI2 × Grun) :=
  (idx p0.frames ((IntKind.i64.wrap (((p0.frames.length : Int)) - 1)))).bind fun m1 => (impl_prog_at p0.k m1.func0 m1.pc).bind fun t2 => some (m1, t2, p0)
theorem c_impl_run_here_v0F0c0n1 {p0 : Grun} {r : GFrame × GI2 × Grun} (h : impl_run_here_v0F0c0n1 p0 = some r) : Con Tryz.prog 75 [.mp 0 8 0 0] [.o 8 [[.d (.ptr .bor [.row .bor 3 (Rw (GFunc.cells .bor) p0.k.program.funcs), .row .bor 1 (Rw (cL .bor 1 (cI .i64)) p0.k.h)]), .sl 1 4 0 p0.frames.length, .d (.row .own 1 (Rw (cL .own 1 (cI .i64)) p0.world.heap)), .d (.row .own 1 (Rw (cI .i64) p0.world.out)), V.int p0.world.fuel0, V.bool p0.world.done, V.int p0.world.value, V.int p0.world.trap]], .o 4 (dd (Rw (GFrame.cells .own) p0.frames))] (.tup [.mp 1 4 (((IntKind.i64.wrap (((p0.frames.length : Int)) - 1))).toNat) 0, .agg [V.int r.2.1.a, V.int r.2.1.b]]) [.o 8 [[.d (.ptr .bor [.row .bor 3 (Rw (GFunc.cells .bor) r.2.2.k.program.funcs), .row .bor 1 (Rw (cL .bor 1 (cI .i64)) r.2.2.k.h)]), .sl 1 4 0 p0.frames.length, .d (.row .own 1 (Rw (cL .own 1 (cI .i64)) r.2.2.world.heap)), .d (.row .own 1 (Rw (cI .i64) r.2.2.world.out)), V.int r.2.2.world.fuel0, V.bool r.2.2.world.done, V.int r.2.2.world.value, V.int r.2.2.world.trap]], .o 4 (dd (Rw (GFrame.cells .own) ((p0.frames.set (((IntKind.i64.wrap (((p0.frames.length : Int)) - 1))).toNat) r.1))))] := by
  refine csw Tryz.func75 Tryz.call75 (by simp [Tryz.ntmps75]) (h := ?_)
  rw [Tryz.ntmps75, Tryz.results75]
  unfold impl_run_here_v0F0c0n1 at h
  replace h := Yes.mk h
  simp only [entryS, entryO, Nat.reduceAdd, List.length_nil, List.length_cons]
  repeat' (first
 | (with_reducible (first | refine sw_reg ?_ | refine sw_ret ?_ | refine sw_skip ?_ | refine sw_block ?_ | refine sw_exit ?_ | refine seqQ_normal ?_ | refine blockQ_normal ?_ | refine blockQ_ret ?_ | refine blockQ_this ?_ | refine blockQ_other (by decide) ?_ | refine regW_nil ?_ | refine sw_draw mixed ?_ | refine retQ_ret ?_ | refine retQ_normal ?_))
 | (with_reducible refine regD_nil ?_
    refine ⟨by kernel_rfl, ?_⟩)
 | (revert h; (first | ((with_reducible refine idx_elim ?_); intro m hm1 hm2 hm3 h; (try (simp only [Int.reduceToNat] at hm3)); (try (revert hm3; (with_reducible apply same_elim); (focus (with_reducible assumption)); rintro rfl)); (try (simp only [List.length_set, List.length_cons, List.length_nil, List.length_replicate, Nat.reduceAdd, Int.cast_ofNat_Int, Nat.zero_add, List.length_append] at hm2))) | (with_reducible refine sidx_elim ?_; intro m hm1 hm3 h) | (with_reducible refine gd_elim ?_; intro hg h; try (have hg2 := hg.2; have hg := hg.1; (try (simp only [Nat.reduceLeDiff] at hg2)); (try (revert hg2; (with_reducible refine toNat_elim hg ?_); intro hg2 hg4)); try (have hg3 := hg2.2; have hg2 := hg2.1; (try (simp only [Nat.reduceLeDiff] at hg3))))) | (with_reducible refine condt_elim ?_ ?_; (focus (with_reducible assumption)); intro h) | (with_reducible refine condf_elim ?_ ?_; (focus (with_reducible assumption)); intro h)))
 | with_reducible refine sw_seq ?_
 | with_reducible refine seqQ_ret ?_
 | with_reducible refine seqQ_exit ?_
 | ((with_reducible refine wp_ite ?_ ?_)
    all_goals (intro hc; (try (simp only [Bool.not_eq_true, Bool.not_eq_false] at hc)); simp only [hc]))
 | (with_reducible refine rskip (hs := ?_) (h2 := ?_)
    · simp only [lkd, lkb, reduceCtorEq, Nat.reduceEqDiff]; done)
 | (with_reducible refine ryes (hs := ?_) (h := ?_)
    · simp only [lkd, lkb, reduceCtorEq, Nat.reduceEqDiff]; done)
 | (with_reducible refine rno (hs := ?_) (h := ?_)
    · simp only [lkd, lkb, reduceCtorEq, Nat.reduceEqDiff, Bool.not_true, Bool.not_false]; done)
 | (with_reducible apply regW_guardN
    · simp only [dstOk, Nat.reduceLT]
    · rfl
    · simp only [lkd, lkb, reduceCtorEq, Nat.reduceEqDiff]; rfl
    all_goals (intro hc; (try (simp only [Bool.not_true, Bool.not_false] at hc))))
 | (with_reducible apply sw_cond
    · simp only [lkd, lkb, reduceCtorEq, Nat.reduceEqDiff]; rfl
    all_goals (intro hc; try (cases hc; done)))
 | ((first
     | ((with_reducible refine gh_ret ?_)
        revert h
        with_reducible refine some_elim ?_
        rintro rfl)
     | (with_reducible refine here_call ?_
        revert h
        with_reducible refine bind_elim ?_
        intro t ht h
        (first
          | ((with_reducible refine here_call (f := 117) ?_)
             refine call_dataE (c_impl_prog_at ht) ?_ rfl ?_
             · first | rfl | (simp; done))))
     | (with_reducible (first | refine ropD (h := ?_) | refine ropW (h := ?_))
        intro k hk)
     | skip)
    simp only [bn, lkb, evb, evd, Value.oneCell', setSeg, reduceCtorEq, Nat.reduceAdd, Nat.reduceMul, Nat.reduceSub, Nat.reduceLT, Nat.reduceLeDiff, Nat.reduceEqDiff, Int.reduceNeg, Int.reduceToNat, ty2, ty3, ty4, ty23, ty25, ty26, ty27, ty28, ty56, ty58, ty63, ty92, ty94, ty98, ty102, ty104, ty109, ty111, GFrame.cells, GFunc.cells, GI2.cells, GProgram.cells, Gprog.cells, Gworld.cells, cI, cB, cS, cL, GI2_e, GFunc_e, GProgram_e, GFrame_e, Gprog_e, Gworld_e, LcIi64_e, nilEqP, ne_eq, not_false_eq_true, not_true_eq_false, *]
    try (refine hk.use _ _ _ _ ?_; clear hk k))
 | fail)
  all_goals (try (simp only [set_self, *]; done))
  all_goals (try rfl)
  all_goals (try (simp; done))
  all_goals (try (simp_all; done))
set_option linter.defProp false
def impl_Frame_take_v0E0 (p0 : GFrame) (p1 : Int) : Option ((List Int) × GFrame) :=
  gd (0 ≤ (IntKind.i64.wrap (((p0.stack.length : Int)) - p1)) ∧ (IntKind.i64.wrap (((p0.stack.length : Int)) - p1)) ≤ (p0.stack.length : Int)) ((slices_Clone_int64_int64 (((p0.stack.drop (((IntKind.i64.wrap (((p0.stack.length : Int)) - p1))).toNat)).take ((p0.stack.length - ((IntKind.i64.wrap (((p0.stack.length : Int)) - p1))).toNat))))).bind fun t1 => gd (0 ≤ (IntKind.i64.wrap (((p0.stack.length : Int)) - p1)) ∧ (IntKind.i64.wrap (((p0.stack.length : Int)) - p1)) ≤ (p0.stack.length : Int)) (some (t1, (⟨p0.func0, p0.pc, p0.locals, (p0.stack.take (((IntKind.i64.wrap (((p0.stack.length : Int)) - p1))).toNat))⟩ : GFrame))))
theorem c_impl_Frame_take_v0E0 {p0 : GFrame} {p1 : Int} {l0 : List GFrame} {j0 : Nat} {r : (List Int) × GFrame} (hj0 : j0 < l0.length) (h : impl_Frame_take_v0E0 p0 p1 = some r) : Con Tryz.prog 77 [.mp 0 4 j0 0, V.int p1] [.o 4 (dd (Rw (GFrame.cells .own) ((l0.set j0 p0))))] (.d (.row .own 1 (Rw (cI .i64) r.1))) [.o 4 (dd (Rw (GFrame.cells .own) ((l0.set j0 r.2))))] := by
  obtain ⟨q0, hl0⟩ := list_get hj0
  refine csw Tryz.func77 Tryz.call77 (by simp [Tryz.ntmps77]) (h := ?_)
  rw [Tryz.ntmps77, Tryz.results77]
  unfold impl_Frame_take_v0E0 at h
  replace h := Yes.mk h
  simp only [entryS, entryO, Nat.reduceAdd, List.length_nil, List.length_cons]
  repeat' (first
 | (with_reducible (first | refine sw_reg ?_ | refine sw_ret ?_ | refine sw_skip ?_ | refine sw_block ?_ | refine sw_exit ?_ | refine seqQ_normal ?_ | refine blockQ_normal ?_ | refine blockQ_ret ?_ | refine blockQ_this ?_ | refine blockQ_other (by decide) ?_ | refine regW_nil ?_ | refine sw_draw mixed ?_ | refine retQ_ret ?_ | refine retQ_normal ?_))
 | (with_reducible refine regD_nil ?_
    refine ⟨by kernel_rfl, ?_⟩)
 | (revert h; (first | ((with_reducible refine idx_elim ?_); intro m hm1 hm2 hm3 h; (try (simp only [Int.reduceToNat] at hm3)); (try (revert hm3; (with_reducible apply same_elim); (focus (with_reducible assumption)); rintro rfl)); (try (simp only [List.length_set, List.length_cons, List.length_nil, List.length_replicate, Nat.reduceAdd, Int.cast_ofNat_Int, Nat.zero_add, List.length_append] at hm2))) | (with_reducible refine sidx_elim ?_; intro m hm1 hm3 h) | (with_reducible refine gd_elim ?_; intro hg h; try (have hg2 := hg.2; have hg := hg.1; (try (simp only [Nat.reduceLeDiff] at hg2)); (try (revert hg2; (with_reducible refine toNat_elim hg ?_); intro hg2 hg4)); try (have hg3 := hg2.2; have hg2 := hg2.1; (try (simp only [Nat.reduceLeDiff] at hg3))))) | (with_reducible refine condt_elim ?_ ?_; (focus (with_reducible assumption)); intro h) | (with_reducible refine condf_elim ?_ ?_; (focus (with_reducible assumption)); intro h)))
 | with_reducible refine sw_seq ?_
 | with_reducible refine seqQ_ret ?_
 | with_reducible refine seqQ_exit ?_
 | (with_reducible refine gh_nilRow 4 .own 1 ?_ ?_
    · simp only [lkd, lkb, reduceCtorEq, Nat.reduceEqDiff]; done
    skip)
 | (with_reducible refine here_retw ?_
    with_reducible apply gh_resRow 0
    · simp only [lkd, lkb, reduceCtorEq, Nat.reduceEqDiff]; rfl
    · first | (simp only [Rw_length, List.length_set]; omega) | (simp [Rw_length]; omega)
    simp only [rxb, Nat.reduceAdd, Nat.reduceLeDiff, rxd, lkd, lkb, reduceCtorEq, Nat.reduceEqDiff, mmb, GFrame_Dset, LcIi64_Dset, *])
 | ((with_reducible refine wp_ite ?_ ?_)
    all_goals (intro hc; (try (simp only [Bool.not_eq_true, Bool.not_eq_false] at hc)); simp only [hc]))
 | (with_reducible refine rskip (hs := ?_) (h2 := ?_)
    · simp only [lkd, lkb, reduceCtorEq, Nat.reduceEqDiff]; done)
 | (with_reducible refine ryes (hs := ?_) (h := ?_)
    · simp only [lkd, lkb, reduceCtorEq, Nat.reduceEqDiff]; done)
 | (with_reducible refine rno (hs := ?_) (h := ?_)
    · simp only [lkd, lkb, reduceCtorEq, Nat.reduceEqDiff, Bool.not_true, Bool.not_false]; done)
 | (with_reducible apply regW_guardN
    · simp only [dstOk, Nat.reduceLT]
    · rfl
    · simp only [lkd, lkb, reduceCtorEq, Nat.reduceEqDiff]; rfl
    all_goals (intro hc; (try (simp only [Bool.not_true, Bool.not_false] at hc))))
 | (with_reducible apply sw_cond
    · simp only [lkd, lkb, reduceCtorEq, Nat.reduceEqDiff]; rfl
    all_goals (intro hc; try (cases hc; done)))
 | ((first
     | ((with_reducible refine gh_ret ?_)
        revert h
        with_reducible refine some_elim ?_
        rintro rfl)
     | (with_reducible refine here_call ?_
        revert h
        with_reducible refine bind_elim ?_
        intro t ht h
        (first
          | ((with_reducible refine here_call (f := 116) ?_)
             refine call_autoE (c_slices_Clone_int64_int64 ht) ?_ ?_ ?_
             · simp only [hyb, hyd, GFrame_lend, LcIi64_lend, Nat.add_sub_cancel', List.take_of_length_le, lkd, lkb, reduceCtorEq, Nat.reduceEqDiff, *]; first | rfl | done
             · first | rfl | (simp only [nbd, nbb, GFrame_nb, LcIi64_nb]; done)
             simp only [V.namesOf, V.namesOfL, List.foldl_cons, List.foldl_nil, List.nil_append, List.append_nil, List.cons_append])))
     | (with_reducible (first | refine ropD (h := ?_) | refine ropW (h := ?_))
        intro k hk)
     | skip)
    simp only [bn, lkb, evb, evd, Value.oneCell', setSeg, reduceCtorEq, Nat.reduceAdd, Nat.reduceMul, Nat.reduceSub, Nat.reduceLT, Nat.reduceLeDiff, Nat.reduceEqDiff, Int.reduceNeg, Int.reduceToNat, ty2, ty3, ty28, ty56, ty111, GFrame.cells, cI, cB, cS, cL, GFrame_e, LcIi64_e, List.length_take, Nat.min_eq_left, nilEqP, ne_eq, not_false_eq_true, not_true_eq_false, *]
    try (refine hk.use _ _ _ _ ?_; clear hk k))
 | fail)
  all_goals (try rfl)
  all_goals (try (simp; done))
  all_goals (try (simp_all; done))
set_option linter.defProp false
def impl_Binary.a1 (k : Nat) (a1 : GI2) (a2 : Int) (a3 : Int) (a4 : Int) (a5 : Int) : Option (GI2 × Int × Int × Int × Int × Bool) :=
  cond ((a5 == 13)) (some (a1, a2, a3, a4, a5, true)) (some (a1, a2, a3, a4, a5, (a5 == 14)))
def impl_Binary (k : Nat) (p0 : Int) (p1 : Int) (p2 : Int) : Option (GI2) :=
  cond ((p0 == 10)) (some ((⟨(IntKind.i64.wrap (p1 + p2)), 0⟩ : GI2))) (cond ((p0 == 11)) (some ((⟨(IntKind.i64.wrap (p1 - p2)), 0⟩ : GI2))) (cond ((p0 == 12)) (some ((⟨(IntKind.i64.wrap (p1 * p2)), 0⟩ : GI2))) ((impl_Binary.a1 k ((⟨0, 0⟩ : GI2)) p0 p1 p2 p0).bind fun o1 => cond o1.2.2.2.2.2 (cond ((o1.2.2.2.1 == 0)) (some ((⟨0, 11⟩ : GI2))) (cond ((o1.2.1 == 13)) (gd (o1.2.2.2.1 ≠ 0) (some ((⟨(iquo .i64 o1.2.2.1 o1.2.2.2.1), 0⟩ : GI2)))) (gd (o1.2.2.2.1 ≠ 0) (some ((⟨(o1.2.2.1.tmod o1.2.2.2.1), 0⟩ : GI2)))))) (cond ((o1.2.2.2.2.1 == 15)) (some ((⟨(iand .i64 o1.2.2.1 o1.2.2.2.1), 0⟩ : GI2))) (cond ((o1.2.2.2.2.1 == 16)) (some ((⟨(ior .i64 o1.2.2.1 o1.2.2.2.1), 0⟩ : GI2))) (cond ((o1.2.2.2.2.1 == 17)) (some ((⟨(ixor .i64 o1.2.2.1 o1.2.2.2.1), 0⟩ : GI2))) (cond ((o1.2.2.2.2.1 == 18)) (gd (0 ≤ ((IntKind.u64.wrap ((iand .i64 o1.2.2.2.1 63))))) (some ((⟨(ishl .i64 o1.2.2.1 ((IntKind.u64.wrap ((iand .i64 o1.2.2.2.1 63))))), 0⟩ : GI2)))) (cond ((o1.2.2.2.2.1 == 19)) (gd (0 ≤ ((IntKind.u64.wrap ((iand .i64 o1.2.2.2.1 63))))) (some ((⟨(ishr .i64 o1.2.2.1 ((IntKind.u64.wrap ((iand .i64 o1.2.2.2.1 63))))), 0⟩ : GI2)))) (cond ((o1.2.2.2.2.1 == 20)) (gd (0 ≤ ((IntKind.u64.wrap ((iand .i64 o1.2.2.2.1 63))))) (some ((⟨(IntKind.i64.wrap ((ishr .u64 ((IntKind.u64.wrap o1.2.2.1)) ((IntKind.u64.wrap ((iand .i64 o1.2.2.2.1 63))))))), 0⟩ : GI2)))) (cond ((o1.2.2.2.2.1 == 21)) ((impl_bit ((decide (o1.2.2.1 < o1.2.2.2.1)))).bind fun t1 => some t1) (cond ((o1.2.2.2.2.1 == 22)) ((impl_bit ((decide (o1.2.2.1 ≤ o1.2.2.2.1)))).bind fun t2 => some t2) (cond ((o1.2.2.2.2.1 == 23)) ((impl_bit ((o1.2.2.1 == o1.2.2.2.1))).bind fun t3 => some t3) (some ((⟨0, 0⟩ : GI2)))))))))))))))
def impl_OpName (p0 : Int) : Option (ByteArray) :=
  (impl_in p0 0 38).bind fun t1 => cond ((!t1)) (some ((⟨#[]⟩ : ByteArray))) ((impl_opNames).bind fun t2 => (idx t2 p0).bind fun m3 => some m3)
def impl_copies.l1 : Nat → (List (List Int)) → (List (List Int)) → Int → Int → Option ((List (List Int)))
  | 0, _, _, _, _ => none
  | k + 1, a1, a2, a3, a4 => cond ((decide (a4 < a3))) ((idx a2 a4).bind fun m1 => (slices_Clone_int64_int64 m1).bind fun t2 => gd ((a1.length + 1) * 24 ≤ 35184372088832 ∧ a1.length + 1 ≤ 35184372088832) (impl_copies.l1 k ((a1 ++ [t2])) a2 a3 ((IntKind.i64.wrap (a4 + 1))))) (some (a1))
def impl_copies (k : Nat) (p0 : (List (List Int))) : Option ((List (List Int))) :=
  (impl_copies.l1 k [] p0 ((p0.length : Int)) 0).bind fun o1 => some o1
def impl_isArith (p0 : Int) : Option (Bool) :=
  (impl_in p0 10 29).bind fun t1 => some t1
def impl_isBinary (p0 : Int) : Option (Bool) :=
  (impl_in p0 10 23).bind fun t1 => some t1
def impl_isUnary (p0 : Int) : Option (Bool) :=
  (impl_in p0 24 29).bind fun t1 => some t1
def impl_ownFrame (p0 : GFrame) : Option (GFrame) :=
  (slices_Clone_int64_int64 p0.locals).bind fun t1 => (slices_Clone_int64_int64 p0.stack).bind fun t2 => some ((⟨p0.func0, p0.pc, t1, t2⟩ : GFrame))
def impl_prog_reached (p0 : Gprog) (p1 : Int) (p2 : Int) : Option (Bool) :=
  (impl_hasFunc p0.program p1).bind fun t1 => cond t1 (cond ((decide (p2 ≥ 0))) ((idx p0.h p1).bind fun m2 => cond ((decide (p2 < ((m2.length : Int))))) ((idx m2 p2).bind fun m3 => some ((decide (m3 ≥ 0)))) (some false)) (some false)) (some false)
def impl_sameFrame (k : Nat) (p0 : GFrame) (p1 : GFrame) : Option (Bool) :=
  cond ((p0.func0 == p1.func0)) (cond ((p0.pc == p1.pc)) ((slices_Equal_int64_int64 k p0.locals p1.locals).bind fun t1 => cond t1 ((slices_Equal_int64_int64 k p0.stack p1.stack).bind fun t2 => some t2) (some false)) (some false)) (some false)
def impl_world_right.a1 (k : Nat) (a1 : (List (List Int))) (a2 : (List Int)) (a3 : Int) (a4 : Bool) (a5 : Int) (a6 : Int) (a7 : Int) : Option ((Bool) ⊕ ((List (List Int)) × (List Int) × Int × Bool × Int × Int × Int)) :=
  (impl_in a3 0 3000).bind fun t1 => cond ((!t1)) (some (.inl (false))) (cond ((decide (((a1.length : Int)) > 30))) (some (.inl (false))) (cond ((decide (((a2.length : Int)) > ((IntKind.i64.wrap (3000 - a3)))))) (some (.inl (false))) (some (.inr (a1, a2, a3, a4, a5, a6, a7)))))
def impl_world_right.l2 : Nat → (List (List Int)) → (List Int) → Int → Bool → Int → Int → Int → (List (List Int)) → Int → Int → Option ((Bool) ⊕ ((List (List Int)) × (List Int) × Int × Bool × Int × Int × Int))
  | 0, _, _, _, _, _, _, _, _, _, _ => none
  | k + 1, a1, a2, a3, a4, a5, a6, a7, a8, a9, a10 => cond ((decide (a10 < a9))) ((idx a8 a10).bind fun m2 => cond ((decide (((m2.length : Int)) > 50))) (some (.inl (false))) (impl_world_right.l2 k a1 a2 a3 a4 a5 a6 a7 a8 a9 ((IntKind.i64.wrap (a10 + 1))))) (some (.inr (a1, a2, a3, a4, a5, a6, a7)))
def impl_world_right (k : Nat) (p0 : Gworld) (p1 : Int) : Option (Bool) :=
  (impl_world_right.a1 k p0.heap p0.out p0.fuel0 p0.done p0.value p0.trap p1).bind fun o1 => Sum.elim (fun o1l => some o1l) (fun o1r => (impl_world_right.l2 k o1r.1 o1r.2.1 o1r.2.2.1 o1r.2.2.2.1 o1r.2.2.2.2.1 o1r.2.2.2.2.2.1 o1r.2.2.2.2.2.2 o1r.1 ((o1r.1.length : Int)) 0).bind fun o2 => Sum.elim (fun o2l => some o2l) (fun o2r => cond o2r.2.2.2.1 (cond ((o2r.2.2.2.2.2.2 == 0)) (cond ((o2r.2.2.2.2.2.1 == 0)) (some true) ((impl_in o2r.2.2.2.2.2.1 11 15).bind fun t3 => cond t3 (some ((o2r.2.2.2.2.1 == 0))) (some false))) (some false)) (cond ((o2r.2.2.2.2.1 == 0)) (cond ((o2r.2.2.2.2.2.1 == 0)) ((impl_in o2r.2.2.2.2.2.2 1 10).bind fun t4 => some t4) (some false)) (some false))) o2) o1
def slices_EqualFunc_int64_int64_int64_int64_vG2Equal.l1 : Nat → (List (List Int)) → (List (List Int)) → Int → Int → Option ((Bool) ⊕ (Unit))
  | 0, _, _, _, _ => none
  | k + 1, a1, a2, a3, a4 => cond ((decide (a4 < a3))) ((idx a2 a4).bind fun m1 => (idx a1 a4).bind fun m2 => (slices_Equal_int64_int64 k m1 m2).bind fun t3 => cond ((!t3)) (some (.inl (false))) (slices_EqualFunc_int64_int64_int64_int64_vG2Equal.l1 k a1 a2 a3 ((IntKind.i64.wrap (a4 + 1))))) (some (.inr ()))
def slices_EqualFunc_int64_int64_int64_int64_vG2Equal (k : Nat) (p0 : (List (List Int))) (p1 : (List (List Int))) : Option (Bool) :=
  cond ((((p0.length : Int)) != ((p1.length : Int)))) (some false) ((slices_EqualFunc_int64_int64_int64_int64_vG2Equal.l1 k p1 p0 ((p0.length : Int)) 0).bind fun o1 => Sum.elim (fun o1l => some o1l) (fun o1r => some true) o1)
def spec_Binary.a1 (k : Nat) (a1 : GI2) (a2 : Int) (a3 : Int) (a4 : Int) (a5 : Int) (a6 : Int) (a7 : Int) : Option (GI2 × Int × Int × Int × Int × Int × Int × Bool) :=
  cond ((a7 == 13)) (some (a1, a2, a3, a4, a5, a6, a7, true)) (some (a1, a2, a3, a4, a5, a6, a7, (a7 == 14)))
def spec_Binary (k : Nat) (p0 : Int) (p1 : Int) (p2 : Int) : Option (GI2) :=
  cond ((p0 == 10)) (some ((⟨(IntKind.i64.wrap (p1 + p2)), 0⟩ : GI2))) (cond ((p0 == 11)) (some ((⟨(IntKind.i64.wrap (p1 - p2)), 0⟩ : GI2))) (cond ((p0 == 12)) (some ((⟨(IntKind.i64.wrap (p1 * p2)), 0⟩ : GI2))) ((spec_Binary.a1 k ((⟨0, 0⟩ : GI2)) p0 p1 p2 0 ((((IntKind.u64.wrap p2)).tmod 64)) p0).bind fun o1 => cond o1.2.2.2.2.2.2.2 ((spec_l02Over o1.2.1 o1.2.2.1 o1.2.2.2.1).bind fun t1 => some t1) (cond ((o1.2.2.2.2.2.2.1 == 15)) (some ((⟨(iand .i64 o1.2.2.1 o1.2.2.2.1), 0⟩ : GI2))) (cond ((o1.2.2.2.2.2.2.1 == 16)) (some ((⟨(ior .i64 o1.2.2.1 o1.2.2.2.1), 0⟩ : GI2))) (cond ((o1.2.2.2.2.2.2.1 == 17)) (some ((⟨(ixor .i64 o1.2.2.1 o1.2.2.2.1), 0⟩ : GI2))) (cond ((o1.2.2.2.2.2.2.1 == 18)) (gd (0 ≤ o1.2.2.2.2.2.1) (some ((⟨(ishl .i64 o1.2.2.1 o1.2.2.2.2.2.1), 0⟩ : GI2)))) (cond ((o1.2.2.2.2.2.2.1 == 19)) (gd (0 ≤ o1.2.2.2.2.2.1) (some ((⟨(ishr .i64 o1.2.2.1 o1.2.2.2.2.2.1), 0⟩ : GI2)))) (cond ((o1.2.2.2.2.2.2.1 == 20)) (gd (0 ≤ o1.2.2.2.2.2.1) (some ((⟨(IntKind.i64.wrap ((ishr .u64 ((IntKind.u64.wrap o1.2.2.1)) o1.2.2.2.2.2.1))), 0⟩ : GI2)))) (cond ((o1.2.2.2.2.2.2.1 == 21)) ((spec_l02If ((decide (o1.2.2.1 < o1.2.2.2.1)))).bind fun t2 => some ((⟨t2, 0⟩ : GI2))) (cond ((o1.2.2.2.2.2.2.1 == 22)) ((spec_l02If ((decide (o1.2.2.1 ≤ o1.2.2.2.1)))).bind fun t3 => some ((⟨t3, 0⟩ : GI2))) (cond ((o1.2.2.2.2.2.2.1 == 23)) ((spec_l02If ((o1.2.2.1 == o1.2.2.2.1))).bind fun t4 => some ((⟨t4, 0⟩ : GI2))) (some ((⟨o1.2.2.2.2.1, 0⟩ : GI2)))))))))))))))
theorem gr11 : (∀ {k : Nat} {p0 : Int} {p1 : Int} {p2 : Int} {r : GI2}, impl_Binary k p0 p1 p2 = some r → Con Tryz.prog 140 [V.int p0, V.int p1, V.int p2] [] (.agg [V.int r.a, V.int r.b]) []) ∧
  (∀ {p0 : Int} {r : ByteArray}, impl_OpName p0 = some r → Con Tryz.prog 137 [V.int p0] [] (.d (.p (.string r))) []) ∧
  (∀ {k : Nat} {p0 : (List (List Int))} {r : (List (List Int))}, impl_copies k p0 = some r → Con Tryz.prog 115 [.d (.row .bor 1 (Rw (cL .bor 1 (cI .i64)) p0))] [] (.d (.row .own 1 (Rw (cL .own 1 (cI .i64)) r))) []) ∧
  (∀ {p0 : Int} {r : Bool}, impl_isArith p0 = some r → Con Tryz.prog 122 [V.int p0] [] (V.bool r) []) ∧
  (∀ {p0 : Int} {r : Bool}, impl_isBinary p0 = some r → Con Tryz.prog 118 [V.int p0] [] (V.bool r) []) ∧
  (∀ {p0 : Int} {r : Bool}, impl_isUnary p0 = some r → Con Tryz.prog 120 [V.int p0] [] (V.bool r) []) ∧
  (∀ {p0 : GFrame} {r : GFrame}, impl_ownFrame p0 = some r → Con Tryz.prog 74 [.agg [V.int p0.func0, V.int p0.pc, .d (.row .bor 1 (Rw (cI .i64) p0.locals)), .d (.row .bor 1 (Rw (cI .i64) p0.stack))]] [] (.agg [V.int r.func0, V.int r.pc, .d (.row .own 1 (Rw (cI .i64) r.locals)), .d (.row .own 1 (Rw (cI .i64) r.stack))]) []) ∧
  (∀ {p0 : Gprog} {p1 : Int} {p2 : Int} {r : Bool}, impl_prog_reached p0 p1 p2 = some r → Con Tryz.prog 139 [.d (.ptr .bor [.row .bor 3 (Rw (GFunc.cells .bor) p0.program.funcs), .row .bor 1 (Rw (cL .bor 1 (cI .i64)) p0.h)]), V.int p1, V.int p2] [] (V.bool r) []) ∧
  (∀ {k : Nat} {p0 : GFrame} {p1 : GFrame} {r : Bool}, impl_sameFrame k p0 p1 = some r → Con Tryz.prog 43 [.agg [V.int p0.func0, V.int p0.pc, .d (.row .bor 1 (Rw (cI .i64) p0.locals)), .d (.row .bor 1 (Rw (cI .i64) p0.stack))], .agg [V.int p1.func0, V.int p1.pc, .d (.row .bor 1 (Rw (cI .i64) p1.locals)), .d (.row .bor 1 (Rw (cI .i64) p1.stack))]] [] (V.bool r) []) ∧
  (∀ {k : Nat} {p0 : Gworld} {p1 : Int} {r : Bool}, impl_world_right k p0 p1 = some r → Con Tryz.prog 71 [.agg [.d (.row .bor 1 (Rw (cL .bor 1 (cI .i64)) p0.heap)), .d (.row .bor 1 (Rw (cI .i64) p0.out)), V.int p0.fuel0, V.bool p0.done, V.int p0.value, V.int p0.trap], V.int p1] [] (V.bool r) []) ∧
  (∀ {k : Nat} {p0 : (List (List Int))} {p1 : (List (List Int))} {r : Bool}, slices_EqualFunc_int64_int64_int64_int64_vG2Equal k p0 p1 = some r → Con Tryz.prog 90 [.d (.row .bor 1 (Rw (cL .bor 1 (cI .i64)) p0)), .d (.row .bor 1 (Rw (cL .bor 1 (cI .i64)) p1)), .clo 45 []] [] (V.bool r) []) ∧
  (∀ {k : Nat} {p0 : Int} {p1 : Int} {p2 : Int} {r : GI2}, spec_Binary k p0 p1 p2 = some r → Con Tryz.prog 125 [V.int p0, V.int p1, V.int p2] [] (.agg [V.int r.a, V.int r.b]) []) := by
  refine ⟨?_, ?_, ?_, ?_, ?_, ?_, ?_, ?_, ?_, ?_, ?_, ?_⟩
  all_goals intros
  all_goals rename_i h
  all_goals first
    | (with_reducible refine isf 140 ?_
       refine csw Tryz.func140 Tryz.call140 (by simp [Tryz.ntmps140]) (h := ?_)
       refine mkf 140 fun hF => ?_
       rw [Tryz.ntmps140, Tryz.results140]
       unfold impl_Binary at h)
    | (with_reducible refine isf 137 ?_
       refine csw Tryz.func137 Tryz.call137 (by simp [Tryz.ntmps137]) (h := ?_)
       refine mkf 137 fun hF => ?_
       rw [Tryz.ntmps137, Tryz.results137]
       unfold impl_OpName at h)
    | (with_reducible refine isf 115 ?_
       refine csw Tryz.func115 Tryz.call115 (by simp [Tryz.ntmps115]) (h := ?_)
       refine mkf 115 fun hF => ?_
       rw [Tryz.ntmps115, Tryz.results115]
       unfold impl_copies at h)
    | (with_reducible refine isf 122 ?_
       refine csw Tryz.func122 Tryz.call122 (by simp [Tryz.ntmps122]) (h := ?_)
       refine mkf 122 fun hF => ?_
       rw [Tryz.ntmps122, Tryz.results122]
       unfold impl_isArith at h)
    | (with_reducible refine isf 118 ?_
       refine csw Tryz.func118 Tryz.call118 (by simp [Tryz.ntmps118]) (h := ?_)
       refine mkf 118 fun hF => ?_
       rw [Tryz.ntmps118, Tryz.results118]
       unfold impl_isBinary at h)
    | (with_reducible refine isf 120 ?_
       refine csw Tryz.func120 Tryz.call120 (by simp [Tryz.ntmps120]) (h := ?_)
       refine mkf 120 fun hF => ?_
       rw [Tryz.ntmps120, Tryz.results120]
       unfold impl_isUnary at h)
    | (with_reducible refine isf 74 ?_
       refine csw Tryz.func74 Tryz.call74 (by simp [Tryz.ntmps74]) (h := ?_)
       refine mkf 74 fun hF => ?_
       rw [Tryz.ntmps74, Tryz.results74]
       unfold impl_ownFrame at h)
    | (with_reducible refine isf 139 ?_
       refine csw Tryz.func139 Tryz.call139 (by simp [Tryz.ntmps139]) (h := ?_)
       refine mkf 139 fun hF => ?_
       rw [Tryz.ntmps139, Tryz.results139]
       unfold impl_prog_reached at h)
    | (with_reducible refine isf 43 ?_
       refine csw Tryz.func43 Tryz.call43 (by simp [Tryz.ntmps43]) (h := ?_)
       refine mkf 43 fun hF => ?_
       rw [Tryz.ntmps43, Tryz.results43]
       unfold impl_sameFrame at h)
    | (with_reducible refine isf 71 ?_
       refine csw Tryz.func71 Tryz.call71 (by simp [Tryz.ntmps71]) (h := ?_)
       refine mkf 71 fun hF => ?_
       rw [Tryz.ntmps71, Tryz.results71]
       unfold impl_world_right at h)
    | (with_reducible refine isf 90 ?_
       refine csw Tryz.func90 Tryz.call90 (by simp [Tryz.ntmps90]) (h := ?_)
       refine mkf 100102 fun hF => ?_
       rw [Tryz.ntmps90, Tryz.results90]
       unfold slices_EqualFunc_int64_int64_int64_int64_vG2Equal at h)
    | (with_reducible refine isf 125 ?_
       refine csw Tryz.func125 Tryz.call125 (by simp [Tryz.ntmps125]) (h := ?_)
       refine mkf 125 fun hF => ?_
       rw [Tryz.ntmps125, Tryz.results125]
       unfold spec_Binary at h)
  all_goals (replace h := Yes.mk h; simp only [entryS, entryO, Nat.reduceAdd, List.length_nil, List.length_cons])
  repeat' (first
 | (with_reducible (first | refine sw_reg ?_ | refine sw_ret ?_ | refine sw_skip ?_ | refine sw_block ?_ | refine sw_exit ?_ | refine seqQ_normal ?_ | refine blockQ_normal ?_ | refine blockQ_ret ?_ | refine blockQ_this ?_ | refine blockQ_other (by decide) ?_ | refine regW_nil ?_ | refine sw_draw mixed ?_ | refine retQ_ret ?_ | refine retQ_normal ?_))
 | (with_reducible refine regD_nil ?_
    refine ⟨by kernel_rfl, ?_⟩)
 | (revert h; (first | ((with_reducible refine idx_elim ?_); intro m hm1 hm2 hm3 h; (try (simp only [Int.reduceToNat] at hm3)); (try (revert hm3; (with_reducible apply same_elim); (focus (with_reducible assumption)); rintro rfl)); (try (simp only [List.length_set, List.length_cons, List.length_nil, List.length_replicate, Nat.reduceAdd, Int.cast_ofNat_Int, Nat.zero_add, List.length_append] at hm2))) | (with_reducible refine sidx_elim ?_; intro m hm1 hm3 h) | (with_reducible refine gd_elim ?_; intro hg h; try (have hg2 := hg.2; have hg := hg.1; (try (simp only [Nat.reduceLeDiff] at hg2)); (try (revert hg2; (with_reducible refine toNat_elim hg ?_); intro hg2 hg4)); try (have hg3 := hg2.2; have hg2 := hg2.1; (try (simp only [Nat.reduceLeDiff] at hg3))))) | (with_reducible refine condt_elim ?_ ?_; (focus (with_reducible assumption)); intro h) | (with_reducible refine condf_elim ?_ ?_; (focus (with_reducible assumption)); intro h)))
 | ((with_reducible first | refine pnR ?_ | refine pnE ?_ | refine pmR ?_ | refine pmE ?_)
    obtain rfl := h.get
    have h := hK
    clear hK
    (try (simp only [Sum.elim_inl, Sum.elim_inr] at h)))
 | ((with_reducible refine fi 140 ?_ ?_); (focus (with_reducible assumption))
    first
    | (with_reducible refine here_join (a := (.seq (.region 8 _ _) _)) (b := (.cond (.tmp 26) _ _)) ?_
       revert h
       with_reducible refine bind_elimY ?_
       intro o1 h hK
       unfold impl_Binary.a1 at h
       refine sw_join (ι := GI2 × Int × Int × Int × Int × Bool) 10000000 (fun x => [(.s 0, some (.v (V.int x.2.1))), (.s 1, some (.v (V.int x.2.2.1))), (.s 2, some (.v (V.int x.2.2.2.1))), (.s 6, some (.v (.mp 0 2 0 0))), (.s 7, some (.v (V.int x.2.2.2.2.1))), (.s 26, some (.v (V.bool x.2.2.2.2.2))), (.r 0, some (.o 2 [[V.int x.1.a, V.int x.1.b]]))]) (fun x => Yes (some (x)) o1) ?_ ?_
       rotate_left
       rintro ⟨b1, b2, b3, b4, b5, b6⟩ h
       obtain rfl := h.get
       have h := hK
       clear hK
       (try (simp only [Sum.elim_inl, Sum.elim_inr] at h))
       refine sw_gh ?_
       refine gh_sw ?_))
 | ((with_reducible refine fi 115 ?_ ?_); (focus (with_reducible assumption))
    first
    | (with_reducible refine here_loop (c := (.seq (.region 3 _ _) _)) ?_
       revert h
       with_reducible refine bind_elimY ?_
       intro o1 h hK
       refine sw_gh ?_
       (try (refine gh_nilRow 3 .own 1 ?_ ?_; (focus (simp only [lkd, lkb, reduceCtorEq, Nat.reduceEqDiff]; done))))
       refine gh_resSlot 3 ?_
       simp only [rxb, Nat.reduceAdd, Nat.reduceLeDiff, rxd, lkd, lkb, reduceCtorEq, Nat.reduceEqDiff, *]
       refine gh_sw ?_
       refine lpA (β := (List (List Int)) × (List (List Int)) × Int × Int) 10000000 (fun x => [(.s 3, some (.v (.d (.row .own 1 (Rw (cL .own 1 (cI .i64)) x.2.1))))), (.s 6, some (.v (.d (.row .bor 1 (Rw (cL .bor 1 (cI .i64)) x.2.2.1))))), (.s 7, some (.v (V.int x.2.2.2.1))), (.s 8, some (.v (V.int x.2.2.2.2)))]) (fun x => Yes (impl_copies.l1 x.1 x.2.1 x.2.2.1 x.2.2.2.1 x.2.2.2.2) o1) (_, _, _, _, _) h ?_
       rintro ⟨_ | k, a1, a2, a3, a4⟩ h
       · simp only [impl_copies.l1] at h; exact h.none
       simp only [impl_copies.l1] at h
       refine sw_gh ?_
       refine gh_nameSlot 3 ?_
       simp only [rxb, Nat.reduceAdd, Nat.reduceLeDiff, rxd, lkd, lkb, reduceCtorEq, Nat.reduceEqDiff, Nat.reduceAdd]
       refine gh_sw ?_
   )
    | (with_reducible refine here_next (N0 := 10000000) ?_
       (try (refine gh_nilRow 3 .own 1 ?_ ?_; (focus (simp only [lkd, lkb, reduceCtorEq, Nat.reduceEqDiff]; done))))
       refine gh_resSlot 3 ?_
       simp only [rxb, Nat.reduceAdd, Nat.reduceLeDiff, rxd, lkd, lkb, reduceCtorEq, Nat.reduceEqDiff, *]
       refine nxA (_, _, _, _, _) h))
 | ((with_reducible refine fi 71 ?_ ?_); (focus (with_reducible assumption))
    first
    | (with_reducible refine here_loop (c := (.seq (.region 4 _ _) _)) ?_
       revert h
       with_reducible refine bind_elimY ?_
       intro o2 h hK
       refine lpA (β := (List (List Int)) × (List Int) × Int × Bool × Int × Int × Int × (List (List Int)) × Int × Int) 20000000 (fun x => [(.s 1, some (.v (V.int x.2.2.2.2.2.2.2.1))), (.s 2, some (.v (.mp 0 6 0 0))), (.s 27, some (.v (.d (.row .bor 1 (Rw (cL .bor 1 (cI .i64)) x.2.2.2.2.2.2.2.2.1))))), (.s 28, some (.v (V.int x.2.2.2.2.2.2.2.2.2.1))), (.s 29, some (.v (V.int x.2.2.2.2.2.2.2.2.2.2))), (.r 0, some (.o 6 [[.d (.row .bor 1 (Rw (cL .bor 1 (cI .i64)) x.2.1)), .d (.row .bor 1 (Rw (cI .i64) x.2.2.1)), V.int x.2.2.2.1, V.bool x.2.2.2.2.1, V.int x.2.2.2.2.2.1, V.int x.2.2.2.2.2.2.1]]))]) (fun x => Yes (impl_world_right.l2 x.1 x.2.1 x.2.2.1 x.2.2.2.1 x.2.2.2.2.1 x.2.2.2.2.2.1 x.2.2.2.2.2.2.1 x.2.2.2.2.2.2.2.1 x.2.2.2.2.2.2.2.2.1 x.2.2.2.2.2.2.2.2.2.1 x.2.2.2.2.2.2.2.2.2.2) o2) (_, _, _, _, _, _, _, _, _, _, _) h ?_
       rintro ⟨_ | k, a1, a2, a3, a4, a5, a6, a7, a8, a9, a10⟩ h
       · simp only [impl_world_right.l2] at h; exact h.none
       simp only [impl_world_right.l2] at h
   )
    | (with_reducible refine here_join (a := (.seq (.region 1 _ _) _)) (b := (.seq (.seq (.region 3 _ _) _) _)) ?_
       revert h
       with_reducible refine bind_elimY ?_
       intro o1 h hK
       unfold impl_world_right.a1 at h
       refine sw_join (ι := (List (List Int)) × (List Int) × Int × Bool × Int × Int × Int) 10000000 (fun x => [(.s 1, some (.v (V.int x.2.2.2.2.2.2))), (.s 2, some (.v (.mp 0 6 0 0))), (.r 0, some (.o 6 [[.d (.row .bor 1 (Rw (cL .bor 1 (cI .i64)) x.1)), .d (.row .bor 1 (Rw (cI .i64) x.2.1)), V.int x.2.2.1, V.bool x.2.2.2.1, V.int x.2.2.2.2.1, V.int x.2.2.2.2.2.1]]))]) (fun x => Yes (some (.inr x)) o1) ?_ ?_
       rotate_left
       rintro ⟨b1, b2, b3, b4, b5, b6, b7⟩ h
       obtain rfl := h.get
       have h := hK
       clear hK
       (try (simp only [Sum.elim_inl, Sum.elim_inr] at h))
       refine sw_gh ?_
       refine gh_sw ?_))
 | ((with_reducible refine fi 100102 ?_ ?_); (focus (with_reducible assumption))
    first
    | (with_reducible refine here_loop (c := (.seq (.region 4 _ _) _)) ?_
       revert h
       with_reducible refine bind_elimY ?_
       intro o1 h hK
       refine lpA (β := (List (List Int)) × (List (List Int)) × Int × Int) 10000000 (fun x => [(.s 1, some (.v (.d (.row .bor 1 (Rw (cL .bor 1 (cI .i64)) x.2.1))))), (.s 2, some (.v (.clo 45 []))), (.s 15, some (.v (.d (.row .bor 1 (Rw (cL .bor 1 (cI .i64)) x.2.2.1))))), (.s 16, some (.v (V.int x.2.2.2.1))), (.s 17, some (.v (V.int x.2.2.2.2)))]) (fun x => Yes (slices_EqualFunc_int64_int64_int64_int64_vG2Equal.l1 x.1 x.2.1 x.2.2.1 x.2.2.2.1 x.2.2.2.2) o1) (_, _, _, _, _) h ?_
       rintro ⟨_ | k, a1, a2, a3, a4⟩ h
       · simp only [slices_EqualFunc_int64_int64_int64_int64_vG2Equal.l1] at h; exact h.none
       simp only [slices_EqualFunc_int64_int64_int64_int64_vG2Equal.l1] at h
   ))
 | ((with_reducible refine fi 125 ?_ ?_); (focus (with_reducible assumption))
    first
    | (with_reducible refine here_join (a := (.seq (.region 10 _ _) _)) (b := (.cond (.tmp 28) _ _)) ?_
       revert h
       with_reducible refine bind_elimY ?_
       intro o1 h hK
       unfold spec_Binary.a1 at h
       refine sw_join (ι := GI2 × Int × Int × Int × Int × Int × Int × Bool) 10000000 (fun x => [(.s 0, some (.v (V.int x.2.1))), (.s 1, some (.v (V.int x.2.2.1))), (.s 2, some (.v (V.int x.2.2.2.1))), (.s 6, some (.v (.mp 0 2 0 0))), (.s 7, some (.v (V.int x.2.2.2.2.1))), (.s 8, some (.v (.d (.p (.int .u64 x.2.2.2.2.2.1))))), (.s 12, some (.v (V.int x.2.2.2.2.2.2.1))), (.s 28, some (.v (V.bool x.2.2.2.2.2.2.2))), (.r 0, some (.o 2 [[V.int x.1.a, V.int x.1.b]]))]) (fun x => Yes (some (x)) o1) ?_ ?_
       rotate_left
       rintro ⟨b1, b2, b3, b4, b5, b6, b7, b8⟩ h
       obtain rfl := h.get
       have h := hK
       clear hK
       (try (simp only [Sum.elim_inl, Sum.elim_inr] at h))
       refine sw_gh ?_
       refine gh_sw ?_))
 | (with_reducible refine here_next ?_
    first | refine nxA (_, _, _, _, _) h | refine nxA (_, _, _, _, _, _, _, _, _, _, _) h)
 | (with_reducible refine here_meet ?_
    first | refine mtA (_, _, _, _, _, _) h | refine mtA (_, _, _, _, _, _, _) h | refine mtA (_, _, _, _, _, _, _, _) h)
 | with_reducible refine sw_seq ?_
 | with_reducible refine seqQ_ret ?_
 | with_reducible refine seqQ_exit ?_
 | ((with_reducible refine fi 115 ?_ ?_); (focus (with_reducible assumption))
    first
    | (with_reducible refine gh_nilRow 2 .own 1 ?_ ?_
       · simp only [lkd, lkb, reduceCtorEq, Nat.reduceEqDiff]; done
       skip))
 | ((with_reducible refine wp_ite ?_ ?_)
    all_goals (intro hc; (try (simp only [Bool.not_eq_true, Bool.not_eq_false] at hc)); simp only [hc]))
 | (with_reducible refine rskip (hs := ?_) (h2 := ?_)
    · simp only [lkd, lkb, reduceCtorEq, Nat.reduceEqDiff]; done)
 | (with_reducible refine ryes (hs := ?_) (h := ?_)
    · simp only [lkd, lkb, reduceCtorEq, Nat.reduceEqDiff]; done)
 | (with_reducible refine rno (hs := ?_) (h := ?_)
    · simp only [lkd, lkb, reduceCtorEq, Nat.reduceEqDiff, Bool.not_true, Bool.not_false]; done)
 | (with_reducible apply regW_guardN
    · simp only [dstOk, Nat.reduceLT]
    · rfl
    · simp only [lkd, lkb, reduceCtorEq, Nat.reduceEqDiff]; rfl
    all_goals (intro hc; (try (simp only [Bool.not_true, Bool.not_false] at hc))))
 | (with_reducible apply sw_cond
    · simp only [lkd, lkb, reduceCtorEq, Nat.reduceEqDiff]; rfl
    all_goals (intro hc; try (cases hc; done)))
 | ((first
     | ((with_reducible refine gh_ret ?_)
        revert h
        with_reducible refine some_elim ?_
        rintro rfl)
     | (with_reducible refine here_call ?_
        revert h
        with_reducible refine bind_elim ?_
        intro t ht h
        (first
          | ((first
              | ((with_reducible refine here_call (f := 150) ?_); refine call_dataE (c_impl_bit ht) ?_ rfl ?_)
              | ((with_reducible refine here_call (f := 110) ?_); refine call_dataE (c_impl_in ht) ?_ rfl ?_)
              | ((with_reducible refine here_call (f := 149) ?_); refine call_dataE (c_impl_opNames ht) ?_ rfl ?_)
              | ((with_reducible refine here_call (f := 116) ?_); refine call_dataE (c_slices_Clone_int64_int64 ht) ?_ rfl ?_)
              | ((with_reducible refine here_call (f := 119) ?_); refine call_dataE (c_impl_hasFunc ht) ?_ rfl ?_)
              | ((with_reducible refine here_call (f := 45) ?_); refine call_dataE (c_slices_Equal_int64_int64 ht) ?_ rfl ?_)
              | ((with_reducible refine here_call (f := 142) ?_); refine call_dataE (c_spec_l02Over ht) ?_ rfl ?_)
              | ((with_reducible refine here_call (f := 143) ?_); refine call_dataE (c_spec_l02If ht) ?_ rfl ?_))
             · first | rfl | (simp; done))))
     | (with_reducible (first | refine ropD (h := ?_) | refine ropW (h := ?_))
        intro k hk)
     | skip)
    simp only [bn, lkb, evb, evd, Value.oneCell', setSeg, reduceCtorEq, Nat.reduceAdd, Nat.reduceMul, Nat.reduceSub, Nat.reduceLT, Nat.reduceLeDiff, Nat.reduceEqDiff, Int.reduceNeg, Int.reduceToNat, ty2, ty3, ty4, ty5, ty9, ty23, ty25, ty27, ty28, ty56, ty58, ty92, ty94, ty98, ty102, ty104, ty120, ty138, ty171, ty185, GFrame.cells, GFunc.cells, GI2.cells, GProgram.cells, Gprog.cells, Gworld.cells, cI, cB, cS, cL, GI2_e, GFunc_e, GProgram_e, GFrame_e, Gprog_e, Gworld_e, LcIi64_e, buildP, buildSliceP, putParts, structPlaces, chunks, List.replicate, List.flatten_nil, List.flatten_cons, Option.bind_some, bb, LcIi64_b, shiftBin_shl, shiftBin_shr, intBin_quo, intBin_rem, Int.reduceLT, Int.reduceEq, not_false_eq_true, Int.not_lt, nilEqP, ne_eq, not_false_eq_true, not_true_eq_false, *]
    try (refine hk.use _ _ _ _ ?_; clear hk k))
 | fail)
  all_goals (try rfl)
  all_goals (try (simp; done))
  all_goals (try (simp_all; done))
def c_impl_Binary := @And.left _ _ gr11
def c_impl_OpName := @And.left _ _ (@And.right _ _ gr11)
def c_impl_copies := @And.left _ _ (@And.right _ _ (@And.right _ _ gr11))
def c_impl_isArith := @And.left _ _ (@And.right _ _ (@And.right _ _ (@And.right _ _ gr11)))
def c_impl_isBinary := @And.left _ _ (@And.right _ _ (@And.right _ _ (@And.right _ _ (@And.right _ _ gr11))))
def c_impl_isUnary := @And.left _ _ (@And.right _ _ (@And.right _ _ (@And.right _ _ (@And.right _ _ (@And.right _ _ gr11)))))
def c_impl_ownFrame := @And.left _ _ (@And.right _ _ (@And.right _ _ (@And.right _ _ (@And.right _ _ (@And.right _ _ (@And.right _ _ gr11))))))
def c_impl_prog_reached := @And.left _ _ (@And.right _ _ (@And.right _ _ (@And.right _ _ (@And.right _ _ (@And.right _ _ (@And.right _ _ (@And.right _ _ gr11)))))))
def c_impl_sameFrame := @And.left _ _ (@And.right _ _ (@And.right _ _ (@And.right _ _ (@And.right _ _ (@And.right _ _ (@And.right _ _ (@And.right _ _ (@And.right _ _ gr11))))))))
def c_impl_world_right := @And.left _ _ (@And.right _ _ (@And.right _ _ (@And.right _ _ (@And.right _ _ (@And.right _ _ (@And.right _ _ (@And.right _ _ (@And.right _ _ (@And.right _ _ gr11)))))))))
def c_slices_EqualFunc_int64_int64_int64_int64_vG2Equal := @And.left _ _ (@And.right _ _ (@And.right _ _ (@And.right _ _ (@And.right _ _ (@And.right _ _ (@And.right _ _ (@And.right _ _ (@And.right _ _ (@And.right _ _ (@And.right _ _ gr11))))))))))
def c_spec_Binary := (@And.right _ _ (@And.right _ _ (@And.right _ _ (@And.right _ _ (@And.right _ _ (@And.right _ _ (@And.right _ _ (@And.right _ _ (@And.right _ _ (@And.right _ _ (@And.right _ _ gr11)))))))))))
end Go.Proofs.YtdlaplgofgklnaaGreat