/- WHAT IS PROVED: an abstract walker over the model, what some functions of the program answer, and laws of these answers. Conditions: none. -/
import Derived.Test.YtdlaplgofgklnaaGreatKf13
import Derived.Test.YtdlaplgofgklnaaGreatKf15
namespace Go.Proofs.YtdlaplgofgklnaaGreat
open Go.Proofs Go.Proofs.YtdlaplgofgklnaaGreat.L
set_option maxHeartbeats 8000000
set_option linter.unusedSimpArgs false
set_option linter.unusedVariables false
set_option maxRecDepth 100000
set_option linter.defProp false
def spec_l03Gen_stmt.a1 (rec : Gl03Gen → Int → Option (Gl03Gen)) (k : Nat) (a1 : Gl03Gen) (a2 : Int) (a3 : Int) : Option (Gl03Gen × Int × Int × Bool) :=
  cond ((a3 == 2)) (some (a1, a2, a3, true)) (some (a1, a2, a3, (a3 == 3)))
def spec_l03Gen_stmt.a2 (rec : Gl03Gen → Int → Option (Gl03Gen)) (k : Nat) (a1 : Gl03Gen) (a2 : Int) : Option (Gl03Gen × Int × Bool) :=
  cond ((decide (a2 > 0))) (some (a1, a2, (decide (a1.locals > 0)))) (some (a1, a2, false))
def spec_l03Gen_stmt : Nat → Gl03Gen → Int → Option (Gl03Gen)
  | 0, _, _ => none
  | k + 1, p0, p1 => (spec_l03Gen_full p0).bind fun t1 => gd (t1.2.args.length = p0.args.length) (cond t1.1 (some t1.2) ((spec_l01Src_n k t1.2.s 8).bind fun t2 => cond ((t2.1 == 0)) ((spec_l03Gen_expr k ((⟨t2.2, t1.2.args, t1.2.locals, t1.2.code, t1.2.most⟩ : Gl03Gen)) 2).bind fun t3 => gd (t3.args.length = p0.args.length) ((spec_l03Gen_put t3 38 0).bind fun t4 => gd (t4.2.args.length = p0.args.length) (some t4.2))) (cond ((t2.1 == 1)) (cond ((decide (p1 > 0))) ((spec_l03Gen_expr k ((⟨t2.2, t1.2.args, t1.2.locals, t1.2.code, t1.2.most⟩ : Gl03Gen)) 2).bind fun t5 => gd (t5.args.length = p0.args.length) ((spec_l03Gen_put t5 31 0).bind fun t6 => gd (t6.2.args.length = p0.args.length) (((spec_l03Gen_stmt k) t6.2 ((IntKind.i64.wrap (p1 - 1)))).bind fun t7 => gd (t7.args.length = p0.args.length) ((spec_l03Gen_put t7 30 0).bind fun t8 => gd (t8.2.args.length = p0.args.length) ((spec_l03Gen_here t8.2 t6.1).bind fun t9 => gd (t9.args.length = p0.args.length) (((spec_l03Gen_stmt k) t9 ((IntKind.i64.wrap (p1 - 1)))).bind fun t10 => gd (t10.args.length = p0.args.length) ((spec_l03Gen_here t10 t8.1).bind fun t11 => gd (t11.args.length = p0.args.length) (some t11)))))))) (some ((⟨t2.2, t1.2.args, t1.2.locals, t1.2.code, t1.2.most⟩ : Gl03Gen)))) ((spec_l03Gen_stmt.a1 (spec_l03Gen_stmt k) k ((⟨t2.2, t1.2.args, t1.2.locals, t1.2.code, t1.2.most⟩ : Gl03Gen)) p1 t2.1).bind fun o1 => gd (o1.1.args.length = p0.args.length) (cond o1.2.2.2 ((spec_l03Gen_stmt.a2 (spec_l03Gen_stmt k) k o1.1 o1.2.1).bind fun o2 => gd (o2.1.args.length = p0.args.length) (cond o2.2.2 ((spec_l03Gen_local k o2.1).bind fun t12 => gd (t12.2.args.length = p0.args.length) ((spec_l01Src_n k t12.2.s 6).bind fun t13 => (spec_l03Gen_put ((⟨t13.2, t12.2.args, t12.2.locals, t12.2.code, t12.2.most⟩ : Gl03Gen)) 1 ((IntKind.i64.wrap (1 + t13.1)))).bind fun t14 => gd (t14.2.args.length = p0.args.length) ((spec_l03Gen_put t14.2 3 t12.1).bind fun t15 => gd (t15.2.args.length = p0.args.length) ((spec_l03Gen_put t15.2 2 t12.1).bind fun t16 => gd (t16.2.args.length = p0.args.length) ((spec_l03Gen_put t16.2 31 0).bind fun t17 => gd (t17.2.args.length = p0.args.length) (((spec_l03Gen_stmt k) t17.2 ((IntKind.i64.wrap (o2.2.1 - 1)))).bind fun t18 => gd (t18.args.length = p0.args.length) ((spec_l03Gen_put t18 2 t12.1).bind fun t19 => gd (t19.2.args.length = p0.args.length) ((spec_l03Gen_put t19.2 1 1).bind fun t20 => gd (t20.2.args.length = p0.args.length) ((spec_l03Gen_put t20.2 11 0).bind fun t21 => gd (t21.2.args.length = p0.args.length) ((spec_l03Gen_put t21.2 3 t12.1).bind fun t22 => gd (t22.2.args.length = p0.args.length) ((spec_l03Gen_put t22.2 30 t16.1).bind fun t23 => gd (t23.2.args.length = p0.args.length) ((spec_l03Gen_here t23.2 t17.1).bind fun t24 => gd (t24.args.length = p0.args.length) (some t24))))))))))))) (some o2.1))) (cond ((o1.2.2.1 == 4)) (cond ((decide (o1.1.locals > 0))) ((spec_l03Gen_local k o1.1).bind fun t25 => gd (t25.2.args.length = p0.args.length) ((spec_l01Src_n k t25.2.s 6).bind fun t26 => (spec_l03Gen_put ((⟨t26.2, t25.2.args, t25.2.locals, t25.2.code, t25.2.most⟩ : Gl03Gen)) 1 ((IntKind.i64.wrap (1 + t26.1)))).bind fun t27 => gd (t27.2.args.length = p0.args.length) ((spec_l03Gen_put t27.2 34 0).bind fun t28 => gd (t28.2.args.length = p0.args.length) ((spec_l03Gen_put t28.2 3 t25.1).bind fun t29 => gd (t29.2.args.length = p0.args.length) ((spec_l03Gen_put t29.2 2 t25.1).bind fun t30 => gd (t30.2.args.length = p0.args.length) ((spec_l01Src_n k t30.2.s 4).bind fun t31 => (spec_l03Gen_put ((⟨t31.2, t30.2.args, t30.2.locals, t30.2.code, t30.2.most⟩ : Gl03Gen)) 1 t31.1).bind fun t32 => gd (t32.2.args.length = p0.args.length) ((spec_l03Gen_expr k t32.2 1).bind fun t33 => gd (t33.args.length = p0.args.length) ((spec_l03Gen_put t33 36 0).bind fun t34 => gd (t34.2.args.length = p0.args.length) (some t34.2))))))))) (some o1.1)) (cond ((o1.2.2.1 == 5)) ((spec_l03Gen_expr k o1.1 3).bind fun t35 => gd (t35.args.length = p0.args.length) ((spec_l03Gen_put t35 5 0).bind fun t36 => gd (t36.2.args.length = p0.args.length) (some t36.2))) ((spec_l03Gen_expr k o1.1 3).bind fun t37 => gd (t37.args.length = p0.args.length) (cond ((decide (t37.locals > 0))) ((spec_l03Gen_local k t37).bind fun t38 => gd (t38.2.args.length = p0.args.length) ((spec_l03Gen_put t38.2 3 t38.1).bind fun t39 => gd (t39.2.args.length = p0.args.length) (some t39.2))) ((spec_l03Gen_put t37 5 0).bind fun t40 => gd (t40.2.args.length = p0.args.length) (some t40.2)))))))))))
theorem c_spec_l03Gen_stmt {k : Nat} {p0 : Gl03Gen} {p1 : Int} {r : Gl03Gen} (h : spec_l03Gen_stmt k p0 p1 = some r) : Con Tryz.prog 100 [.mp 0 5 0 0, V.int p1] [.o 5 [[.mp 1 4 0 0, .sl 2 1 0 p0.args.length, V.int p0.locals, .d (.row .own 2 (Rw GI2.cells p0.code)), V.int p0.most]], .o 4 [[.d (.row .bor 1 (Rw (cI .u8) p0.s.b)), V.int p0.s.at0, .d (.p (.int .u64 p0.s.mix)), V.int p0.s.size]], .o 1 (dd (Rw (cI .i64) p0.args))] (.tup []) [.o 5 [[.mp 1 4 0 0, .sl 2 1 0 p0.args.length, V.int r.locals, .d (.row .own 2 (Rw GI2.cells r.code)), V.int r.most]], .o 4 [[.d (.row .bor 1 (Rw (cI .u8) r.s.b)), V.int r.s.at0, .d (.p (.int .u64 r.s.mix)), V.int r.s.size]], .o 1 (dd (Rw (cI .i64) r.args))] := by
  induction k generalizing p0 p1 r with
  | zero => simp only [spec_l03Gen_stmt] at h; cases h
  | succ kr ih =>
  refine csw Tryz.func100 Tryz.call100 (by simp [Tryz.ntmps100]) (h := ?_)
  rw [Tryz.ntmps100, Tryz.results100]
  simp only [spec_l03Gen_stmt] at h
  replace h := Yes.mk h
  simp only [entryS, entryO, Nat.reduceAdd, List.length_nil, List.length_cons]
  repeat' (first
 | (with_reducible (first | refine sw_reg ?_ | refine sw_ret ?_ | refine sw_skip ?_ | refine sw_block ?_ | refine sw_exit ?_ | refine seqQ_normal ?_ | refine blockQ_normal ?_ | refine blockQ_ret ?_ | refine blockQ_this ?_ | refine blockQ_other (by decide) ?_ | refine regW_nil ?_ | refine sw_draw mixed ?_ | refine retQ_ret ?_ | refine retQ_normal ?_))
 | (with_reducible refine regD_nil ?_
    refine ⟨by kernel_rfl, ?_⟩)
 | (revert h; (first | ((with_reducible refine idx_elim ?_); intro m hm1 hm2 hm3 h; (try (simp only [Int.reduceToNat] at hm3)); (try (revert hm3; (with_reducible apply same_elim); (focus (with_reducible assumption)); rintro rfl)); (try (simp only [List.length_set, List.length_cons, List.length_nil, List.length_replicate, Nat.reduceAdd, Int.cast_ofNat_Int, Nat.zero_add, List.length_append] at hm2)); (try (simp only [*] at hm2))) | (with_reducible refine sidx_elim ?_; intro m hm1 hm3 h) | (with_reducible refine gd_elim ?_; intro hg h; try (have hg2 := hg.2; have hg := hg.1; (try (simp only [Nat.reduceLeDiff] at hg2)); (try (revert hg2; (with_reducible refine toNat_elim hg ?_); intro hg2 hg4)); try (have hg3 := hg2.2; have hg2 := hg2.1; (try (simp only [Nat.reduceLeDiff] at hg3))))) | (with_reducible refine condt_elim ?_ ?_; (focus (with_reducible assumption)); intro h) | (with_reducible refine condf_elim ?_ ?_; (focus (with_reducible assumption)); intro h)))
 | ((first | with_reducible refine seqQ_ret (K := (fun st1 n1 => Gh st1 n1 (MeetA _ 20000000 _ _))) ?_ | with_reducible refine seqQ_exit (K := (fun st1 n1 => Gh st1 n1 (MeetA _ 20000000 _ _))) ?_)
    obtain rfl := h.get
    have h := hK2
    (try (simp only [Sum.elim_inl, Sum.elim_inr] at h)))
 | ((first | with_reducible refine seqQ_ret (K := (fun st1 n1 => Gh st1 n1 (MeetA _ 10000000 _ _))) ?_ | with_reducible refine seqQ_exit (K := (fun st1 n1 => Gh st1 n1 (MeetA _ 10000000 _ _))) ?_)
    obtain rfl := h.get
    have h := hK1
    (try (simp only [Sum.elim_inl, Sum.elim_inr] at h)))
 | (with_reducible refine here_join (a := (.region 21 _ _)) (b := (.cond (.tmp 73) _ _)) ?_
    skip
    revert h
    with_reducible refine bind_elimY ?_
    intro o2 h hK2
    unfold spec_l03Gen_stmt.a2 at h
    refine sw_join (ι := Gl03Gen × Int × Bool) 20000000 (fun x : Gl03Gen × Int × Bool => [(.s 0, some (.v (.mp 0 5 0 0))), (.s 1, some (.v (V.int x.2.1))), (.s 4, some (.v (.mp 1 4 0 0))), (.s 73, some (.v (V.bool x.2.2))), (.r 0, some (.o 5 [[.mp 1 4 0 0, .sl 2 1 0 x.1.args.length, V.int x.1.locals, .d (.row .own 2 (Rw GI2.cells x.1.code)), V.int x.1.most]])), (.r 1, some (.o 4 [[.d (.row .bor 1 (Rw (cI .u8) x.1.s.b)), V.int x.1.s.at0, .d (.p (.int .u64 x.1.s.mix)), V.int x.1.s.size]])), (.r 2, some (.o 1 (dd (Rw (cI .i64) x.1.args))))]) (fun x => Yes (some (x)) o2) ?_ ?_
    rotate_left
    rintro ⟨b1, b2, b3⟩ h
    obtain rfl := h.get
    have h := hK2
    (try (simp only [Sum.elim_inl, Sum.elim_inr] at h))
    refine sw_gh ?_
    refine gh_sw ?_
    skip)
 | (with_reducible refine here_meet (N0 := 20000000) ?_
    skip
    refine meet_to (_, _, _) (by decide) ?_ h ?_
    · exact (by simp [sld])
    · simp only [SubL, lkd, lkb, reduceCtorEq, Nat.reduceEqDiff, List.length_set, List.length_replicate]; repeat' (first | apply And.intro | rfl | trivial | (simp only [*]; done)))
 | (with_reducible refine here_join (a := (.seq (.region 19 _ _) _)) (b := (.cond (.tmp 62) _ _)) ?_
    skip
    revert h
    with_reducible refine bind_elimY ?_
    intro o1 h hK1
    unfold spec_l03Gen_stmt.a1 at h
    refine sw_join (ι := Gl03Gen × Int × Int × Bool) 10000000 (fun x : Gl03Gen × Int × Int × Bool => [(.s 0, some (.v (.mp 0 5 0 0))), (.s 1, some (.v (V.int x.2.1))), (.s 4, some (.v (.mp 1 4 0 0))), (.s 18, some (.v (V.int x.2.2.1))), (.s 62, some (.v (V.bool x.2.2.2))), (.r 0, some (.o 5 [[.mp 1 4 0 0, .sl 2 1 0 x.1.args.length, V.int x.1.locals, .d (.row .own 2 (Rw GI2.cells x.1.code)), V.int x.1.most]])), (.r 1, some (.o 4 [[.d (.row .bor 1 (Rw (cI .u8) x.1.s.b)), V.int x.1.s.at0, .d (.p (.int .u64 x.1.s.mix)), V.int x.1.s.size]])), (.r 2, some (.o 1 (dd (Rw (cI .i64) x.1.args))))]) (fun x => Yes (some (x)) o1) ?_ ?_
    rotate_left
    rintro ⟨b1, b2, b3, b4⟩ h
    obtain rfl := h.get
    have h := hK1
    (try (simp only [Sum.elim_inl, Sum.elim_inr] at h))
    refine sw_gh ?_
    refine gh_sw ?_
    skip)
 | (with_reducible refine here_meet (N0 := 10000000) ?_
    skip
    refine meet_to (_, _, _, _) (by decide) ?_ h ?_
    · exact (by simp [sld])
    · simp only [SubL, lkd, lkb, reduceCtorEq, Nat.reduceEqDiff, List.length_set, List.length_replicate]; repeat' (first | apply And.intro | rfl | trivial | (simp only [*]; done)))
 | with_reducible refine sw_seq ?_
 | with_reducible refine seqQ_ret ?_
 | with_reducible refine seqQ_exit ?_
 | ((with_reducible refine wp_ite ?_ ?_)
    all_goals (intro hc; (try (simp only [Bool.not_eq_true, Bool.not_eq_false] at hc)); simp only [hc]))
 | (with_reducible refine rskip (hs := ?_) (h2 := ?_)
    · simp only [lkd, lkb, reduceCtorEq, Nat.reduceEqDiff]; done)
 | (with_reducible refine ryes (hs := ?_) (h := ?_)
    · simp only [lkd, lkb, reduceCtorEq, Nat.reduceEqDiff]; done)
 | (with_reducible refine rno (hs := ?_) (h := ?_)
    · simp only [lkd, lkb, reduceCtorEq, Nat.reduceEqDiff, Bool.not_true, Bool.not_false]; done)
 | (with_reducible apply regW_guardN
    · simp only [dstOk, Nat.reduceLT]
    · rfl
    · simp only [lkd, lkb, reduceCtorEq, Nat.reduceEqDiff]; rfl
    all_goals (intro hc; (try (simp only [Bool.not_true, Bool.not_false] at hc))))
 | (with_reducible apply sw_cond
    · simp only [lkd, lkb, reduceCtorEq, Nat.reduceEqDiff]; rfl
    all_goals (intro hc; try (cases hc; done)))
 | ((first
     | ((with_reducible refine gh_ret ?_)
        revert h
        with_reducible refine some_elim ?_
        rintro rfl)
     | (with_reducible refine here_call ?_
        revert h
        with_reducible refine bind_elim ?_
        intro t ht h
        (first
          | ((with_reducible refine here_call (f := 98) ?_)
             refine call_obj [1] (c_spec_l01Src_n ht) (by decide) ?_ ?_
             · first | exact .inl rfl | (refine .inr ⟨?_, ?_⟩; (focus (first | rfl | (simp only [nbd, nbb, Gl01Src_nb, GI2_nb, LcIi64_nb]; done))); (focus (simp [C.nb, V.nbLL, V.nbL, V.nb, D.nb]; done)))
             simp only [obd, hyb, hyd, Gl01Src_lend, GI2_lend, LcIi64_lend, lkd, lkb, reduceCtorEq, Nat.reduceEqDiff, Prog.wp, Prog.wp_bind, Prog.bind, Prog.ofO, List.take_of_length_le, *])
          | ((with_reducible refine here_call (f := 100) ?_)
             refine call_obj [0, 1, 2] (ih ht) (by decide) ?_ ?_
             · first | exact .inl rfl | (refine .inr ⟨?_, ?_⟩; (focus (first | rfl | (simp only [nbd, nbb, Gl01Src_nb, GI2_nb, LcIi64_nb]; done))); (focus (simp [C.nb, V.nbLL, V.nbL, V.nb, D.nb]; done)))
             simp only [obd, hyb, hyd, Gl01Src_lend, GI2_lend, LcIi64_lend, lkd, lkb, reduceCtorEq, Nat.reduceEqDiff, Prog.wp, Prog.wp_bind, Prog.bind, Prog.ofO, List.take_of_length_le, *])
          | ((with_reducible refine here_call (f := 101) ?_)
             refine call_obj [0, 1, 2] (c_spec_l03Gen_expr ht) (by decide) ?_ ?_
             · first | exact .inl rfl | (refine .inr ⟨?_, ?_⟩; (focus (first | rfl | (simp only [nbd, nbb, Gl01Src_nb, GI2_nb, LcIi64_nb]; done))); (focus (simp [C.nb, V.nbLL, V.nbL, V.nb, D.nb]; done)))
             simp only [obd, hyb, hyd, Gl01Src_lend, GI2_lend, LcIi64_lend, lkd, lkb, reduceCtorEq, Nat.reduceEqDiff, Prog.wp, Prog.wp_bind, Prog.bind, Prog.ofO, List.take_of_length_le, *])
          | ((with_reducible refine here_call (f := 102) ?_)
             refine call_obj [0, 1, 2] (c_spec_l03Gen_put ht) (by decide) ?_ ?_
             · first | exact .inl rfl | (refine .inr ⟨?_, ?_⟩; (focus (first | rfl | (simp only [nbd, nbb, Gl01Src_nb, GI2_nb, LcIi64_nb]; done))); (focus (simp [C.nb, V.nbLL, V.nbL, V.nb, D.nb]; done)))
             simp only [obd, hyb, hyd, Gl01Src_lend, GI2_lend, LcIi64_lend, lkd, lkb, reduceCtorEq, Nat.reduceEqDiff, Prog.wp, Prog.wp_bind, Prog.bind, Prog.ofO, List.take_of_length_le, *])
          | ((with_reducible refine here_call (f := 131) ?_)
             refine call_obj [0, 1, 2] (c_spec_l03Gen_full ht) (by decide) ?_ ?_
             · first | exact .inl rfl | (refine .inr ⟨?_, ?_⟩; (focus (first | rfl | (simp only [nbd, nbb, Gl01Src_nb, GI2_nb, LcIi64_nb]; done))); (focus (simp [C.nb, V.nbLL, V.nbL, V.nb, D.nb]; done)))
             simp only [obd, hyb, hyd, Gl01Src_lend, GI2_lend, LcIi64_lend, lkd, lkb, reduceCtorEq, Nat.reduceEqDiff, Prog.wp, Prog.wp_bind, Prog.bind, Prog.ofO, List.take_of_length_le, *])
          | ((with_reducible refine here_call (f := 132) ?_)
             refine call_obj [0, 1, 2] (c_spec_l03Gen_here ht) (by decide) ?_ ?_
             · first | exact .inl rfl | (refine .inr ⟨?_, ?_⟩; (focus (first | rfl | (simp only [nbd, nbb, Gl01Src_nb, GI2_nb, LcIi64_nb]; done))); (focus (simp [C.nb, V.nbLL, V.nbL, V.nb, D.nb]; done)))
             simp only [obd, hyb, hyd, Gl01Src_lend, GI2_lend, LcIi64_lend, lkd, lkb, reduceCtorEq, Nat.reduceEqDiff, Prog.wp, Prog.wp_bind, Prog.bind, Prog.ofO, List.take_of_length_le, *])
          | ((with_reducible refine here_call (f := 133) ?_)
             refine call_obj [0, 1, 2] (c_spec_l03Gen_local ht) (by decide) ?_ ?_
             · first | exact .inl rfl | (refine .inr ⟨?_, ?_⟩; (focus (first | rfl | (simp only [nbd, nbb, Gl01Src_nb, GI2_nb, LcIi64_nb]; done))); (focus (simp [C.nb, V.nbLL, V.nbL, V.nb, D.nb]; done)))
             simp only [obd, hyb, hyd, Gl01Src_lend, GI2_lend, LcIi64_lend, lkd, lkb, reduceCtorEq, Nat.reduceEqDiff, Prog.wp, Prog.wp_bind, Prog.bind, Prog.ofO, List.take_of_length_le, *])))
     | (with_reducible (first | refine ropD (h := ?_) | refine ropW (h := ?_))
        intro k hk)
     | skip)
    simp only [bn, lkb, evb, evd, Value.oneCell', setSeg, reduceCtorEq, Nat.reduceAdd, Nat.reduceMul, Nat.reduceSub, Nat.reduceLT, Nat.reduceLeDiff, Nat.reduceEqDiff, Int.reduceNeg, Int.reduceToNat, ty2, ty3, ty5, ty22, ty28, ty85, ty92, ty98, ty138, ty140, ty142, ty145, GI2.cells, Gl01Src.cells, cI, cB, cS, cL, Gl01Src_e, GI2_e, LcIi64_e, nilEqP, ne_eq, not_false_eq_true, not_true_eq_false, *]
    try (refine hk.use _ _ _ _ ?_; clear hk k))
 | fail)
  all_goals (try rfl)
  all_goals (try (simp; done))
  all_goals (try (simp_all; done))
set_option linter.defProp false
def impl_run_step (k : Nat) (p0 : Grun) : Option (Grun) :=
  (impl_run_here_v0F0c0n1 ((⟨p0.k, p0.frames, (⟨p0.world.heap, p0.world.out, (IntKind.i64.wrap (p0.world.fuel0 - 1)), p0.world.done, p0.world.value, p0.world.trap⟩ : Gworld)⟩ : Grun))).bind fun t1 => gd (((IntKind.i64.wrap (((p0.frames.length : Int)) - 1))).toNat < p0.frames.length) ((impl_Frame_local_v0E0 k t1.1 t1.2.1).bind fun t2 => cond t2.1 (some ((⟨t1.2.2.k, (p0.frames.set ((IntKind.i64.wrap (((p0.frames.length : Int)) - 1))).toNat t2.2), t1.2.2.world⟩ : Grun))) ((impl_Takes k t1.2.2.k.program t1.2.1).bind fun t3 => (impl_Frame_take_v0E0 t2.2 t3).bind fun t4 => cond ((t1.2.1.a == 32)) (cond ((decide (((p0.frames.length : Int)) ≥ 10))) ((impl_world_end_v0F0c2n1 ((⟨t1.2.2.k, (p0.frames.set ((IntKind.i64.wrap (((p0.frames.length : Int)) - 1))).toNat t4.2), t1.2.2.world⟩ : Grun)) 15).bind fun t5 => some ((⟨t5.k, [], t5.world⟩ : Grun))) ((impl_prog_first t1.2.2.k t1.2.1.b t4.1).bind fun t6 => gd ((p0.frames.length + 1) * 64 ≤ 35184372088832 ∧ p0.frames.length + 1 ≤ 35184372088832) (some ((⟨t1.2.2.k, ((p0.frames.set ((IntKind.i64.wrap (((p0.frames.length : Int)) - 1))).toNat ((⟨t4.2.func0, (IntKind.i64.wrap (t4.2.pc + 1)), t4.2.locals, t4.2.stack⟩ : GFrame))) ++ [t6]), t1.2.2.world⟩ : Grun))))) (cond ((t1.2.1.a == 33)) (gd (0 ≤ (IntKind.i64.wrap (((p0.frames.length : Int)) - 1)) ∧ (IntKind.i64.wrap (((p0.frames.length : Int)) - 1)) ≤ (p0.frames.length : Int)) (cond ((((((IntKind.i64.wrap (((p0.frames.length : Int)) - 1))).toNat : Int)) == 0)) ((idx t4.1 0).bind fun m7 => some ((⟨t1.2.2.k, [], (⟨t1.2.2.world.heap, t1.2.2.world.out, t1.2.2.world.fuel0, true, m7, t1.2.2.world.trap⟩ : Gworld)⟩ : Grun))) (gd (0 ≤ (IntKind.i64.wrap (((((IntKind.i64.wrap (((p0.frames.length : Int)) - 1))).toNat : Int)) - 1)) ∧ (IntKind.i64.wrap (((((IntKind.i64.wrap (((p0.frames.length : Int)) - 1))).toNat : Int)) - 1)) < (((IntKind.i64.wrap (((p0.frames.length : Int)) - 1))).toNat : Int)) ((idx ((p0.frames.set ((IntKind.i64.wrap (((p0.frames.length : Int)) - 1))).toNat t4.2)) ((IntKind.i64.wrap (((((IntKind.i64.wrap (((p0.frames.length : Int)) - 1))).toNat : Int)) - 1)))).bind fun m8 => (idx t4.1 0).bind fun m9 => gd ((m8.stack.length + 1) * 8 ≤ 35184372088832 ∧ m8.stack.length + 1 ≤ 35184372088832) (some ((⟨t1.2.2.k, (((((p0.frames.set ((IntKind.i64.wrap (((p0.frames.length : Int)) - 1))).toNat t4.2)).set ((IntKind.i64.wrap (((((IntKind.i64.wrap (((p0.frames.length : Int)) - 1))).toNat : Int)) - 1))).toNat ((⟨m8.func0, m8.pc, m8.locals, (m8.stack ++ [m9])⟩ : GFrame)))).take (((IntKind.i64.wrap (((p0.frames.length : Int)) - 1))).toNat)), t1.2.2.world⟩ : Grun))))))) ((impl_world_effect_v02F0c2n1 k ((⟨t1.2.2.k, (p0.frames.set ((IntKind.i64.wrap (((p0.frames.length : Int)) - 1))).toNat t4.2), t1.2.2.world⟩ : Grun)) t1.2.1.a t4.1).bind fun t10 => gd (t10.2.2.length = t4.1.length) (cond ((t10.1.b != 0)) ((impl_world_end_v0F0c2n1 ((⟨t10.2.1.k, (p0.frames.set ((IntKind.i64.wrap (((p0.frames.length : Int)) - 1))).toNat t4.2), t10.2.1.world⟩ : Grun)) t10.1.b).bind fun t11 => some ((⟨t11.k, [], t11.world⟩ : Grun))) ((impl_Puts t1.2.1).bind fun t12 => cond ((decide (t12 > 0))) (gd ((t4.2.stack.length + 1) * 8 ≤ 35184372088832 ∧ t4.2.stack.length + 1 ≤ 35184372088832) (some ((⟨t10.2.1.k, (p0.frames.set ((IntKind.i64.wrap (((p0.frames.length : Int)) - 1))).toNat ((⟨t4.2.func0, (IntKind.i64.wrap (t4.2.pc + 1)), t4.2.locals, (t4.2.stack ++ [t10.1.a])⟩ : GFrame))), t10.2.1.world⟩ : Grun)))) (some ((⟨t10.2.1.k, (p0.frames.set ((IntKind.i64.wrap (((p0.frames.length : Int)) - 1))).toNat ((⟨t4.2.func0, (IntKind.i64.wrap (t4.2.pc + 1)), t4.2.locals, t4.2.stack⟩ : GFrame))), t10.2.1.world⟩ : Grun)))))))))
theorem c_impl_run_step {k : Nat} {p0 : Grun} {r : Grun} (h : impl_run_step k p0 = some r) : Con Tryz.prog 35 [.mp 0 8 0 0] [.o 8 [[.d (.ptr .bor [.row .bor 3 (Rw (GFunc.cells .bor) p0.k.program.funcs), .row .bor 1 (Rw (cL .bor 1 (cI .i64)) p0.k.h)]), .d (.row .own 4 (Rw (GFrame.cells .own) p0.frames)), .d (.row .own 1 (Rw (cL .own 1 (cI .i64)) p0.world.heap)), .d (.row .own 1 (Rw (cI .i64) p0.world.out)), V.int p0.world.fuel0, V.bool p0.world.done, V.int p0.world.value, V.int p0.world.trap]]] (.tup []) [.o 8 [[.d (.ptr .bor [.row .bor 3 (Rw (GFunc.cells .bor) r.k.program.funcs), .row .bor 1 (Rw (cL .bor 1 (cI .i64)) r.k.h)]), .d (.row .own 4 (Rw (GFrame.cells .own) r.frames)), .d (.row .own 1 (Rw (cL .own 1 (cI .i64)) r.world.heap)), .d (.row .own 1 (Rw (cI .i64) r.world.out)), V.int r.world.fuel0, V.bool r.world.done, V.int r.world.value, V.int r.world.trap]]] := by
  refine csw Tryz.func35 Tryz.call35 (by simp [Tryz.ntmps35]) (h := ?_)
  rw [Tryz.ntmps35, Tryz.results35]
  unfold impl_run_step at h
  replace h := Yes.mk h
  simp only [entryS, entryO, Nat.reduceAdd, List.length_nil, List.length_cons]
  repeat' (first
 | (with_reducible refine here_reg (i := 1) ?_
    refine sw_gh ?_
    with_reducible apply gh_nameCell 0 1
    · simp only [lkd, lkb, reduceCtorEq, Nat.reduceEqDiff]; rfl
    · rfl
    simp only [List.set_cons_zero, List.set_cons_succ, Nat.reduceAdd, Rw_length]
    refine gh_sw ?_)
 | (with_reducible refine here_reg (i := 16) ?_
    refine sw_gh ?_
    with_reducible apply gh_nameElem 641 (((IntKind.i64.wrap (((((IntKind.i64.wrap (((p0.frames.length : Int)) - 1))).toNat : Int)) - 1))).toNat) 3
    · simp only [lkd, lkb, reduceCtorEq, Nat.reduceEqDiff]; rfl
    · simp only [bn, lkb, evb, evd, Value.oneCell', setSeg, reduceCtorEq, Nat.reduceAdd, Nat.reduceMul, Nat.reduceSub, Nat.reduceLT, Nat.reduceLeDiff, Nat.reduceEqDiff, Int.reduceNeg, Int.reduceToNat, ty2, ty3, ty4, ty23, ty25, ty26, ty27, ty28, ty56, ty58, ty63, ty92, ty94, ty98, ty102, ty104, ty109, ty111, ty120, GFrame.cells, GFunc.cells, GI2.cells, GProgram.cells, Gprog.cells, Gworld.cells, cI, cB, cS, cL, GI2_e, GFunc_e, GProgram_e, GFrame_e, Gprog_e, Gworld_e, LcIi64_e, buildP, buildSliceP, putParts, structPlaces, chunks, List.replicate, List.flatten_nil, List.flatten_cons, Option.bind_some, bb, GFrame_b, List.length_take, Nat.min_eq_left, nilEqP, ne_eq, not_false_eq_true, not_true_eq_false, *]; try rfl
    · rfl
    simp only [List.set_cons_zero, List.set_cons_succ, List.set_set, Nat.reduceAdd, Rw_length]
    refine gh_sw ?_)
 | (with_reducible refine here_reg (i := 22) ?_
    refine sw_gh ?_
    with_reducible apply gh_nameElem 641 (((IntKind.i64.wrap (((p0.frames.length : Int)) - 1))).toNat) 3
    · simp only [lkd, lkb, reduceCtorEq, Nat.reduceEqDiff]; rfl
    · simp only [bn, lkb, evb, evd, Value.oneCell', setSeg, reduceCtorEq, Nat.reduceAdd, Nat.reduceMul, Nat.reduceSub, Nat.reduceLT, Nat.reduceLeDiff, Nat.reduceEqDiff, Int.reduceNeg, Int.reduceToNat, ty2, ty3, ty4, ty23, ty25, ty26, ty27, ty28, ty56, ty58, ty63, ty92, ty94, ty98, ty102, ty104, ty109, ty111, ty120, GFrame.cells, GFunc.cells, GI2.cells, GProgram.cells, Gprog.cells, Gworld.cells, cI, cB, cS, cL, GI2_e, GFunc_e, GProgram_e, GFrame_e, Gprog_e, Gworld_e, LcIi64_e, buildP, buildSliceP, putParts, structPlaces, chunks, List.replicate, List.flatten_nil, List.flatten_cons, Option.bind_some, bb, GFrame_b, List.length_take, Nat.min_eq_left, nilEqP, ne_eq, not_false_eq_true, not_true_eq_false, *]; try rfl
    · rfl
    simp only [List.set_cons_zero, List.set_cons_succ, List.set_set, Nat.reduceAdd, Rw_length]
    refine gh_sw ?_)
 | (with_reducible (first | refine sw_reg ?_ | refine sw_ret ?_ | refine sw_skip ?_ | refine sw_block ?_ | refine sw_exit ?_ | refine seqQ_normal ?_ | refine blockQ_normal ?_ | refine blockQ_ret ?_ | refine blockQ_this ?_ | refine blockQ_other (by decide) ?_ | refine regW_nil ?_ | refine sw_draw mixed ?_ | refine retQ_ret ?_ | refine retQ_normal ?_))
 | (with_reducible refine regD_nil ?_
    refine ⟨by kernel_rfl, ?_⟩)
 | (revert h; (first | ((with_reducible refine idx_elim ?_); intro m hm1 hm2 hm3 h; (try (simp only [Int.reduceToNat] at hm3)); (try (revert hm3; (with_reducible apply same_elim); (focus (with_reducible assumption)); rintro rfl)); (try (simp only [List.length_set, List.length_cons, List.length_nil, List.length_replicate, Nat.reduceAdd, Int.cast_ofNat_Int, Nat.zero_add, List.length_append] at hm2))) | (with_reducible refine sidx_elim ?_; intro m hm1 hm3 h) | (with_reducible refine gd_elim ?_; intro hg h; (try (obtain ⟨q, hq⟩ := list_get hg)); try (have hg2 := hg.2; have hg := hg.1; (try (simp only [Nat.reduceLeDiff] at hg2)); (try (revert hg2; (with_reducible refine toNat_elim hg ?_); intro hg2 hg4)); try (have hg3 := hg2.2; have hg2 := hg2.1; (try (simp only [Nat.reduceLeDiff] at hg3))))) | (with_reducible refine condt_elim ?_ ?_; (focus (with_reducible assumption)); intro h) | (with_reducible refine condf_elim ?_ ?_; (focus (with_reducible assumption)); intro h)))
 | with_reducible refine sw_seq ?_
 | with_reducible refine seqQ_ret ?_
 | with_reducible refine seqQ_exit ?_
 | (with_reducible refine here_retw ?_
    with_reducible apply gh_conv 0
    · simp only [lkd, lkb, reduceCtorEq, Nat.reduceEqDiff]; rfl
    · exact .cons (.cons .same (.cons (.nil (m := .own) (s := 4)) (.cons .same (.cons .same (.cons .same (.cons .same (.cons .same (.cons .same (.nil))))))))) .nil
    skip)
 | (with_reducible refine here_retw ?_
    with_reducible apply gh_resSl 0 1
    · simp only [lkd, lkb, reduceCtorEq, Nat.reduceEqDiff]; rfl
    · rfl
    simp only [rxb, Nat.reduceAdd, Nat.reduceLeDiff, rxd, lkd, lkb, reduceCtorEq, Nat.reduceEqDiff, *])
 | ((with_reducible refine wp_ite ?_ ?_)
    all_goals (intro hc; (try (simp only [Bool.not_eq_true, Bool.not_eq_false] at hc)); simp only [hc]))
 | (with_reducible refine rskip (hs := ?_) (h2 := ?_)
    · simp only [lkd, lkb, reduceCtorEq, Nat.reduceEqDiff]; done)
 | (with_reducible refine ryes (hs := ?_) (h := ?_)
    · simp only [lkd, lkb, reduceCtorEq, Nat.reduceEqDiff]; done)
 | (with_reducible refine rno (hs := ?_) (h := ?_)
    · simp only [lkd, lkb, reduceCtorEq, Nat.reduceEqDiff, Bool.not_true, Bool.not_false]; done)
 | (with_reducible apply regW_guardN
    · simp only [dstOk, Nat.reduceLT]
    · rfl
    · simp only [lkd, lkb, reduceCtorEq, Nat.reduceEqDiff]; rfl
    all_goals (intro hc; (try (simp only [Bool.not_true, Bool.not_false] at hc))))
 | (with_reducible apply sw_cond
    · simp only [lkd, lkb, reduceCtorEq, Nat.reduceEqDiff]; rfl
    all_goals (intro hc; try (cases hc; done)))
 | ((first
     | ((with_reducible refine gh_ret ?_)
        revert h
        with_reducible refine some_elim ?_
        rintro rfl)
     | (with_reducible refine here_call ?_
        revert h
        with_reducible refine bind_elim ?_
        intro t ht h
        (first
          | ((with_reducible refine here_call (f := 75) ?_)
             refine call_obj [0, 641] (c_impl_run_here_v0F0c0n1 ht) (by decide) ?_ ?_
             · first | exact .inl rfl | (refine .inr ⟨?_, ?_⟩; (focus (first | rfl | (simp only [nbd, nbb, GI2_nb, GFunc_nb, GProgram_nb, GFrame_nb, Gprog_nb, Gworld_nb, LcIi64_nb]; done))); (focus (simp [C.nb, V.nbLL, V.nbL, V.nb, D.nb]; done)))
             simp only [obd, hyb, hyd, GI2_lend, GFunc_lend, GProgram_lend, GFrame_lend, Gprog_lend, Gworld_lend, LcIi64_lend, Nat.add_sub_cancel', lkd, lkb, reduceCtorEq, Nat.reduceEqDiff, Prog.wp, Prog.wp_bind, Prog.bind, Prog.ofO, List.take_of_length_le, *])
          | ((with_reducible refine here_call (f := 76) ?_)
             apply call_objE [641] 641 ?_ (c_impl_Frame_local_v0E0 ?_ ht) ?_ ?_ ?_
             rotate_left 2
             · simp only [lkd, lkb, reduceCtorEq, Nat.reduceEqDiff]; rfl
             · first | assumption | (simp only [List.length_set]; assumption)
             · decide
             · first | exact .inl rfl | (refine .inr ⟨?_, ?_⟩; (focus (first | rfl | (simp only [nbd, nbb, GI2_nb, GFunc_nb, GProgram_nb, GFrame_nb, Gprog_nb, Gworld_nb, LcIi64_nb]; done))); (focus (simp [C.nb, V.nbLL, V.nbL, V.nb, D.nb]; done)))
             simp only [obd, hyb, hyd, GI2_lend, GFunc_lend, GProgram_lend, GFrame_lend, Gprog_lend, Gworld_lend, LcIi64_lend, Nat.add_sub_cancel', lkd, lkb, reduceCtorEq, Nat.reduceEqDiff, Prog.wp, Prog.wp_bind, Prog.bind, Prog.ofO, List.take_of_length_le, *])
          | ((with_reducible refine here_call (f := 77) ?_)
             apply call_objE [641] 641 ?_ (c_impl_Frame_take_v0E0 ?_ ht) ?_ ?_ ?_
             rotate_left 2
             · simp only [lkd, lkb, reduceCtorEq, Nat.reduceEqDiff]; rfl
             · first | assumption | (simp only [List.length_set]; assumption)
             · decide
             · first | exact .inl rfl | (refine .inr ⟨?_, ?_⟩; (focus (first | rfl | (simp only [nbd, nbb, GI2_nb, GFunc_nb, GProgram_nb, GFrame_nb, Gprog_nb, Gworld_nb, LcIi64_nb]; done))); (focus (simp [C.nb, V.nbLL, V.nbL, V.nb, D.nb]; done)))
             simp only [obd, hyb, hyd, GI2_lend, GFunc_lend, GProgram_lend, GFrame_lend, Gprog_lend, Gworld_lend, LcIi64_lend, Nat.add_sub_cancel', lkd, lkb, reduceCtorEq, Nat.reduceEqDiff, Prog.wp, Prog.wp_bind, Prog.bind, Prog.ofO, List.take_of_length_le, *])
          | ((with_reducible refine here_call (f := 78) ?_)
             refine call_dataE (c_impl_Takes ht) ?_ rfl ?_
             · first | rfl | (simp; done))
          | ((with_reducible refine here_call (f := 79) ?_)
             refine call_obj [0, 641] (c_impl_world_end_v0F0c2n1 ht) (by decide) ?_ ?_
             · first | exact .inl rfl | (refine .inr ⟨?_, ?_⟩; (focus (first | rfl | (simp only [nbd, nbb, GI2_nb, GFunc_nb, GProgram_nb, GFrame_nb, Gprog_nb, Gworld_nb, LcIi64_nb]; done))); (focus (simp [C.nb, V.nbLL, V.nbL, V.nb, D.nb]; done)))
             simp only [obd, hyb, hyd, GI2_lend, GFunc_lend, GProgram_lend, GFrame_lend, Gprog_lend, Gworld_lend, LcIi64_lend, Nat.add_sub_cancel', lkd, lkb, reduceCtorEq, Nat.reduceEqDiff, Prog.wp, Prog.wp_bind, Prog.bind, Prog.ofO, List.take_of_length_le, *])
          | ((with_reducible refine here_call (f := 80) ?_)
             refine call_autoE (c_impl_prog_first ht) ?_ ?_ ?_
             · simp only [hyb, hyd, GI2_lend, GFunc_lend, GProgram_lend, GFrame_lend, Gprog_lend, Gworld_lend, LcIi64_lend, Nat.add_sub_cancel', List.take_of_length_le, lkd, lkb, reduceCtorEq, Nat.reduceEqDiff, *]; first | rfl | done
             · first | rfl | (simp only [nbd, nbb, GI2_nb, GFunc_nb, GProgram_nb, GFrame_nb, Gprog_nb, Gworld_nb, LcIi64_nb]; done)
             simp only [V.namesOf, V.namesOfL, List.foldl_cons, List.foldl_nil, List.nil_append, List.append_nil, List.cons_append])
          | ((with_reducible refine here_call (f := 81) ?_)
             refine call_obj [0, 641, 2049] (c_impl_world_effect_v02F0c2n1 ht) (by decide) ?_ ?_
             · first | exact .inl rfl | (refine .inr ⟨?_, ?_⟩; (focus (first | rfl | (simp only [nbd, nbb, GI2_nb, GFunc_nb, GProgram_nb, GFrame_nb, Gprog_nb, Gworld_nb, LcIi64_nb]; done))); (focus (simp [C.nb, V.nbLL, V.nbL, V.nb, D.nb]; done)))
             simp only [obd, hyb, hyd, GI2_lend, GFunc_lend, GProgram_lend, GFrame_lend, Gprog_lend, Gworld_lend, LcIi64_lend, Nat.add_sub_cancel', lkd, lkb, reduceCtorEq, Nat.reduceEqDiff, Prog.wp, Prog.wp_bind, Prog.bind, Prog.ofO, List.take_of_length_le, *])
          | ((with_reducible refine here_call (f := 82) ?_)
             refine call_dataE (c_impl_Puts ht) ?_ rfl ?_
             · first | rfl | (simp; done))))
     | (with_reducible (first | refine ropD (h := ?_) | refine ropW (h := ?_))
        intro k hk)
     | skip)
    simp only [bn, lkb, evb, evd, Value.oneCell', setSeg, reduceCtorEq, Nat.reduceAdd, Nat.reduceMul, Nat.reduceSub, Nat.reduceLT, Nat.reduceLeDiff, Nat.reduceEqDiff, Int.reduceNeg, Int.reduceToNat, ty2, ty3, ty4, ty23, ty25, ty26, ty27, ty28, ty56, ty58, ty63, ty92, ty94, ty98, ty102, ty104, ty109, ty111, ty120, GFrame.cells, GFunc.cells, GI2.cells, GProgram.cells, Gprog.cells, Gworld.cells, cI, cB, cS, cL, GI2_e, GFunc_e, GProgram_e, GFrame_e, Gprog_e, Gworld_e, LcIi64_e, buildP, buildSliceP, putParts, structPlaces, chunks, List.replicate, List.flatten_nil, List.flatten_cons, Option.bind_some, bb, GFrame_b, List.length_take, Nat.min_eq_left, nilEqP, ne_eq, not_false_eq_true, not_true_eq_false, *]
    try (refine hk.use _ _ _ _ ?_; clear hk k))
 | fail)
  all_goals (try (simp [List.take_of_length_le]; done))
  all_goals (try rfl)
  all_goals (try (simp; done))
  all_goals (try (simp_all; done))
end Go.Proofs.YtdlaplgofgklnaaGreat