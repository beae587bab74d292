/- WHAT IS PROVED: an abstract walker over the model, what some functions of the program answer, and laws of these answers. Conditions: none. -/
import Derived.Test.YtdlaplgofgklnaaGreatKf8
import Derived.Test.YtdlaplgofgklnaaGreatKf11
namespace Go.Proofs.YtdlaplgofgklnaaGreat
open Go.Proofs Go.Proofs.YtdlaplgofgklnaaGreat.L
set_option maxHeartbeats 8000000
set_option linter.unusedSimpArgs false
set_option linter.unusedVariables false
set_option maxRecDepth 100000
set_option linter.defProp false
def spec_l03Gen_expr.a2 (rec : Gl03Gen → Int → Option (Gl03Gen)) (k : Nat) (a1 : Gl03Gen) (a2 : Int) : Option (Gl03Gen × Int × Bool) :=
  cond ((decide (a2 ≤ 0))) (some (a1, a2, true)) ((spec_l03Gen_full a1).bind fun t1 => gd (t1.2.args.length = a1.args.length) (cond t1.1 (some (t1.2, a2, true)) ((spec_l01Src_one k t1.2.s 3).bind fun t2 => some ((⟨t2.2, t1.2.args, t1.2.locals, t1.2.code, t1.2.most⟩ : Gl03Gen), a2, t2.1))))
def spec_l03Gen_expr.a3 (rec : Gl03Gen → Int → Option (Gl03Gen)) (k : Nat) (a1 : Gl03Gen) : Option ((Gl03Gen) ⊕ (Gl03Gen)) :=
  cond ((decide (a1.locals > 0))) ((spec_l01Src_one k a1.s 2).bind fun t3 => cond t3.1 ((spec_l03Gen_local k ((⟨t3.2, a1.args, a1.locals, a1.code, a1.most⟩ : Gl03Gen))).bind fun t4 => gd (t4.2.args.length = a1.args.length) ((spec_l03Gen_put t4.2 2 t4.1).bind fun t5 => gd (t5.2.args.length = a1.args.length) (some (.inl (t5.2))))) (some (.inr ((⟨t3.2, a1.args, a1.locals, a1.code, a1.most⟩ : Gl03Gen))))) (some (.inr (a1)))
def spec_l03Gen_expr.a1 (rec : Gl03Gen → Int → Option (Gl03Gen)) (k : Nat) (a1 : Gl03Gen) (a2 : Int) : Option ((Gl03Gen) ⊕ (Gl03Gen × Int)) :=
  (spec_l03Gen_expr.a2 rec k a1 a2).bind fun o2 => gd (o2.1.args.length = a1.args.length) (cond o2.2.2 ((spec_l03Gen_expr.a3 rec k o2.1).bind fun o3 => Sum.elim (fun o3l => some (.inl (o3l))) (fun o3r => gd (o3r.args.length = a1.args.length) ((spec_l01Src_n k o3r.s 7).bind fun t6 => (spec_l01Src_one k t6.2 8).bind fun t7 => cond t7.1 ((spec_l01Src_l02Num k t7.2).bind fun t8 => (spec_l03Gen_put ((⟨t8.2, o3r.args, o3r.locals, o3r.code, o3r.most⟩ : Gl03Gen)) 1 t8.1).bind fun t9 => gd (t9.2.args.length = a1.args.length) (some (.inl (t9.2)))) ((spec_l03Gen_put ((⟨t7.2, o3r.args, o3r.locals, o3r.code, o3r.most⟩ : Gl03Gen)) 1 ((IntKind.i64.wrap (t6.1 - 1)))).bind fun t10 => gd (t10.2.args.length = a1.args.length) (some (.inl (t10.2)))))) o3) (some (.inr (o2.1, o2.2.1))))
def spec_l03Gen_expr.l4 (rec : Gl03Gen → Int → Option (Gl03Gen)) : Nat → Gl03Gen → Int → Int → Int → Option (Gl03Gen × Int)
  | 0, _, _, _, _ => none
  | k + 1, a1, a2, a3, a4 => cond ((decide (a4 > 0))) ((rec a1 ((IntKind.i64.wrap (a2 - 2)))).bind fun t21 => gd (t21.args.length = a1.args.length) (spec_l03Gen_expr.l4 rec k t21 a2 a3 ((IntKind.i64.wrap (a4 - 1))))) (some (a1, a3))
def spec_l03Gen_expr : Nat → Gl03Gen → Int → Option (Gl03Gen)
  | 0, _, _ => none
  | k + 1, p0, p1 => (spec_l03Gen_expr.a1 (spec_l03Gen_expr k) k p0 p1).bind fun o1 => Sum.elim (fun o1l => gd (o1l.args.length = p0.args.length) (some o1l)) (fun o1r => gd (o1r.1.args.length = p0.args.length) ((spec_l01Src_n k o1r.1.s 10).bind fun t11 => cond ((t11.1 == 0)) (((spec_l03Gen_expr k) ((⟨t11.2, o1r.1.args, o1r.1.locals, o1r.1.code, o1r.1.most⟩ : Gl03Gen)) ((IntKind.i64.wrap (o1r.2 - 1)))).bind fun t12 => gd (t12.args.length = p0.args.length) ((spec_l01Src_n k t12.s 6).bind fun t13 => (spec_l03Gen_put ((⟨t13.2, t12.args, t12.locals, t12.code, t12.most⟩ : Gl03Gen)) ((IntKind.i64.wrap (24 + t13.1))) 0).bind fun t14 => gd (t14.2.args.length = p0.args.length) (some t14.2))) (cond ((t11.1 == 1)) (((spec_l03Gen_expr k) ((⟨t11.2, o1r.1.args, o1r.1.locals, o1r.1.code, o1r.1.most⟩ : Gl03Gen)) ((IntKind.i64.wrap (o1r.2 - 1)))).bind fun t15 => gd (t15.args.length = p0.args.length) ((spec_l03Gen_put t15 4 0).bind fun t16 => gd (t16.2.args.length = p0.args.length) ((spec_l01Src_n k t16.2.s 14).bind fun t17 => (spec_l03Gen_put ((⟨t17.2, t16.2.args, t16.2.locals, t16.2.code, t16.2.most⟩ : Gl03Gen)) ((IntKind.i64.wrap (10 + t17.1))) 0).bind fun t18 => gd (t18.2.args.length = p0.args.length) (some t18.2)))) (cond ((t11.1 == 2)) ((spec_l01Src_n k t11.2 ((p0.args.length : Int))).bind fun t19 => (idx o1r.1.args t19.1).bind fun m20 => (spec_l03Gen_expr.l4 (spec_l03Gen_expr k) k ((⟨t19.2, o1r.1.args, o1r.1.locals, o1r.1.code, o1r.1.most⟩ : Gl03Gen)) o1r.2 t19.1 m20).bind fun o4 => gd (o4.1.args.length = p0.args.length) ((spec_l03Gen_put o4.1 32 o4.2).bind fun t22 => gd (t22.2.args.length = p0.args.length) (some t22.2))) (cond ((t11.1 == 3)) (cond ((decide (o1r.1.locals > 0))) ((spec_l03Gen_local k ((⟨t11.2, o1r.1.args, o1r.1.locals, o1r.1.code, o1r.1.most⟩ : Gl03Gen))).bind fun t23 => gd (t23.2.args.length = p0.args.length) ((spec_l03Gen_put t23.2 2 t23.1).bind fun t24 => gd (t24.2.args.length = p0.args.length) (((spec_l03Gen_expr k) t24.2 ((IntKind.i64.wrap (o1r.2 - 2)))).bind fun t25 => gd (t25.args.length = p0.args.length) ((spec_l03Gen_put t25 35 0).bind fun t26 => gd (t26.2.args.length = p0.args.length) (some t26.2))))) (((spec_l03Gen_expr k) ((⟨t11.2, o1r.1.args, o1r.1.locals, o1r.1.code, o1r.1.most⟩ : Gl03Gen)) 0).bind fun t27 => gd (t27.args.length = p0.args.length) (some t27))) (cond ((t11.1 == 4)) ((spec_l01Src_n k t11.2 5).bind fun t28 => (spec_l03Gen_put ((⟨t28.2, o1r.1.args, o1r.1.locals, o1r.1.code, o1r.1.most⟩ : Gl03Gen)) 1 t28.1).bind fun t29 => gd (t29.2.args.length = p0.args.length) ((spec_l03Gen_put t29.2 34 0).bind fun t30 => gd (t30.2.args.length = p0.args.length) (some t30.2))) (cond ((t11.1 == 5)) (((spec_l03Gen_expr k) ((⟨t11.2, o1r.1.args, o1r.1.locals, o1r.1.code, o1r.1.most⟩ : Gl03Gen)) ((IntKind.i64.wrap (o1r.2 - 2)))).bind fun t31 => gd (t31.args.length = p0.args.length) ((spec_l03Gen_put t31 37 0).bind fun t32 => gd (t32.2.args.length = p0.args.length) (some t32.2))) (((spec_l03Gen_expr k) ((⟨t11.2, o1r.1.args, o1r.1.locals, o1r.1.code, o1r.1.most⟩ : Gl03Gen)) ((IntKind.i64.wrap (o1r.2 - 1)))).bind fun t33 => gd (t33.args.length = p0.args.length) (((spec_l03Gen_expr k) t33 ((IntKind.i64.wrap (o1r.2 - 1)))).bind fun t34 => gd (t34.args.length = p0.args.length) ((spec_l01Src_n k t34.s 14).bind fun t35 => cond ((((IntKind.i64.wrap (10 + t35.1))) == 13)) ((spec_l01Src_one k t35.2 4).bind fun t36 => cond ((!t36.1)) ((spec_l03Gen_put ((⟨t36.2, t34.args, t34.locals, t34.code, t34.most⟩ : Gl03Gen)) 11 0).bind fun t37 => gd (t37.2.args.length = p0.args.length) (some t37.2)) ((spec_l03Gen_put ((⟨t36.2, t34.args, t34.locals, t34.code, t34.most⟩ : Gl03Gen)) ((IntKind.i64.wrap (10 + t35.1))) 0).bind fun t38 => gd (t38.2.args.length = p0.args.length) (some t38.2))) (cond ((((IntKind.i64.wrap (10 + t35.1))) == 14)) ((spec_l01Src_one k t35.2 4).bind fun t39 => cond ((!t39.1)) ((spec_l03Gen_put ((⟨t39.2, t34.args, t34.locals, t34.code, t34.most⟩ : Gl03Gen)) 11 0).bind fun t40 => gd (t40.2.args.length = p0.args.length) (some t40.2)) ((spec_l03Gen_put ((⟨t39.2, t34.args, t34.locals, t34.code, t34.most⟩ : Gl03Gen)) ((IntKind.i64.wrap (10 + t35.1))) 0).bind fun t41 => gd (t41.2.args.length = p0.args.length) (some t41.2))) ((spec_l03Gen_put ((⟨t35.2, t34.args, t34.locals, t34.code, t34.most⟩ : Gl03Gen)) ((IntKind.i64.wrap (10 + t35.1))) 0).bind fun t42 => gd (t42.2.args.length = p0.args.length) (some t42.2))))))))))))) o1
theorem c_spec_l03Gen_expr {k : Nat} {p0 : Gl03Gen} {p1 : Int} {r : Gl03Gen} (h : spec_l03Gen_expr k p0 p1 = some r) : Con Tryz.prog 101 [.mp 0 5 0 0, V.int p1] [.o 5 [[.mp 1 4 0 0, .sl 2 1 0 p0.args.length, V.int p0.locals, .d (.row .own 2 (Rw GI2.cells p0.code)), V.int p0.most]], .o 4 [[.d (.row .bor 1 (Rw (cI .u8) p0.s.b)), V.int p0.s.at0, .d (.p (.int .u64 p0.s.mix)), V.int p0.s.size]], .o 1 (dd (Rw (cI .i64) p0.args))] (.tup []) [.o 5 [[.mp 1 4 0 0, .sl 2 1 0 p0.args.length, V.int r.locals, .d (.row .own 2 (Rw GI2.cells r.code)), V.int r.most]], .o 4 [[.d (.row .bor 1 (Rw (cI .u8) r.s.b)), V.int r.s.at0, .d (.p (.int .u64 r.s.mix)), V.int r.s.size]], .o 1 (dd (Rw (cI .i64) r.args))] := by
  induction k generalizing p0 p1 r with
  | zero => simp only [spec_l03Gen_expr] at h; cases h
  | succ kr ih =>
  refine csw Tryz.func101 Tryz.call101 (by simp [Tryz.ntmps101]) (h := ?_)
  rw [Tryz.ntmps101, Tryz.results101]
  simp only [spec_l03Gen_expr] at h
  replace h := Yes.mk h
  simp only [entryS, entryO, Nat.reduceAdd, List.length_nil, List.length_cons]
  repeat' (first
 | (with_reducible (first | refine sw_reg ?_ | refine sw_ret ?_ | refine sw_skip ?_ | refine sw_block ?_ | refine sw_exit ?_ | refine seqQ_normal ?_ | refine blockQ_normal ?_ | refine blockQ_ret ?_ | refine blockQ_this ?_ | refine blockQ_other (by decide) ?_ | refine regW_nil ?_ | refine sw_draw mixed ?_ | refine retQ_ret ?_ | refine retQ_normal ?_))
 | (with_reducible refine regD_nil ?_
    refine ⟨by kernel_rfl, ?_⟩)
 | (revert h; (first | ((with_reducible refine idx_elim ?_); intro m hm1 hm2 hm3 h; (try (simp only [Int.reduceToNat] at hm3)); (try (revert hm3; (with_reducible apply same_elim); (focus (with_reducible assumption)); rintro rfl)); (try (simp only [List.length_set, List.length_cons, List.length_nil, List.length_replicate, Nat.reduceAdd, Int.cast_ofNat_Int, Nat.zero_add, List.length_append] at hm2)); (try (simp only [*] at hm2))) | (with_reducible refine sidx_elim ?_; intro m hm1 hm3 h) | (with_reducible refine gd_elim ?_; intro hg h; try (have hg2 := hg.2; have hg := hg.1; (try (simp only [Nat.reduceLeDiff] at hg2)); (try (revert hg2; (with_reducible refine toNat_elim hg ?_); intro hg2 hg4)); try (have hg3 := hg2.2; have hg2 := hg2.1; (try (simp only [Nat.reduceLeDiff] at hg3))))) | (with_reducible refine condt_elim ?_ ?_; (focus (with_reducible assumption)); intro h) | (with_reducible refine condf_elim ?_ ?_; (focus (with_reducible assumption)); intro h)))
 | ((first | with_reducible refine seqQ_ret (K := (fun st1 n1 => Gh st1 n1 (MeetA _ 30000000 _ _))) ?_ | with_reducible refine seqQ_exit (K := (fun st1 n1 => Gh st1 n1 (MeetA _ 30000000 _ _))) ?_)
    obtain rfl := h.get
    have h := hK3
    (try (simp only [Sum.elim_inl, Sum.elim_inr] at h)))
 | ((first | with_reducible refine seqQ_ret (K := (fun st1 n1 => Gh st1 n1 (MeetA _ 20000000 _ _))) ?_ | with_reducible refine seqQ_exit (K := (fun st1 n1 => Gh st1 n1 (MeetA _ 20000000 _ _))) ?_)
    obtain rfl := h.get
    have h := hK2
    (try (simp only [Sum.elim_inl, Sum.elim_inr] at h)))
 | ((first | with_reducible refine seqQ_ret (K := (fun st1 n1 => Gh st1 n1 (NextS _ 40000000 _ _ _ _))) ?_ | with_reducible refine seqQ_exit (K := (fun st1 n1 => Gh st1 n1 (NextS _ 40000000 _ _ _ _))) ?_)
    obtain rfl := h.get
    have h := hK4
    (try (simp only [Sum.elim_inl, Sum.elim_inr] at h)))
 | ((first | with_reducible refine seqQ_ret (K := (fun st1 n1 => Gh st1 n1 (MeetA _ 10000000 _ _))) ?_ | with_reducible refine seqQ_exit (K := (fun st1 n1 => Gh st1 n1 (MeetA _ 10000000 _ _))) ?_)
    obtain rfl := h.get
    have h := hK1
    (try (simp only [Sum.elim_inl, Sum.elim_inr] at h)))
 | (with_reducible refine here_join (a := (.seq (.region 2 _ _) _)) (b := (.seq (.region 4 _ _) _)) ?_
    skip
    revert h
    with_reducible refine bind_elimY ?_
    intro o3 h hK3
    unfold spec_l03Gen_expr.a3 at h
    refine sw_join (ι := Gl03Gen) 30000000 (fun x : Gl03Gen => [(.s 0, some (.v (.mp 0 5 0 0))), (.s 4, some (.v (.mp 1 4 0 0))), (.r 0, some (.o 5 [[.mp 1 4 0 0, .sl 2 1 0 x.args.length, V.int x.locals, .d (.row .own 2 (Rw GI2.cells x.code)), V.int x.most]])), (.r 1, some (.o 4 [[.d (.row .bor 1 (Rw (cI .u8) x.s.b)), V.int x.s.at0, .d (.p (.int .u64 x.s.mix)), V.int x.s.size]])), (.r 2, some (.o 1 (dd (Rw (cI .i64) x.args))))]) (fun x => Yes (some (.inr x)) o3) ?_ ?_
    rotate_left
    rintro b1 h
    obtain rfl := h.get
    have h := hK3
    (try (simp only [Sum.elim_inl, Sum.elim_inr] at h))
    refine sw_gh ?_
    refine gh_sw ?_
    skip)
 | (with_reducible refine here_meet (N0 := 30000000) ?_
    skip
    refine meet_to (_) (by decide) ?_ h ?_
    · exact (by simp [sld])
    · simp only [SubL, lkd, lkb, reduceCtorEq, Nat.reduceEqDiff, List.length_set, List.length_replicate]; repeat' (first | apply And.intro | rfl | trivial | (simp only [*]; done)))
 | (with_reducible refine here_join (a := (.region 1 _ _)) (b := (.cond (.tmp 22) _ _)) ?_
    skip
    revert h
    with_reducible refine bind_elimY ?_
    intro o2 h hK2
    unfold spec_l03Gen_expr.a2 at h
    refine sw_join (ι := Gl03Gen × Int × Bool) 20000000 (fun x : Gl03Gen × Int × Bool => [(.s 0, some (.v (.mp 0 5 0 0))), (.s 1, some (.v (V.int x.2.1))), (.s 4, some (.v (.mp 1 4 0 0))), (.s 22, some (.v (V.bool x.2.2))), (.r 0, some (.o 5 [[.mp 1 4 0 0, .sl 2 1 0 x.1.args.length, V.int x.1.locals, .d (.row .own 2 (Rw GI2.cells x.1.code)), V.int x.1.most]])), (.r 1, some (.o 4 [[.d (.row .bor 1 (Rw (cI .u8) x.1.s.b)), V.int x.1.s.at0, .d (.p (.int .u64 x.1.s.mix)), V.int x.1.s.size]])), (.r 2, some (.o 1 (dd (Rw (cI .i64) x.1.args))))]) (fun x => Yes (some (x)) o2) ?_ ?_
    rotate_left
    rintro ⟨b1, b2, b3⟩ h
    obtain rfl := h.get
    have h := hK2
    (try (simp only [Sum.elim_inl, Sum.elim_inr] at h))
    refine sw_gh ?_
    refine gh_sw ?_
    skip)
 | (with_reducible refine here_meet (N0 := 20000000) ?_
    skip
    refine meet_to (_, _, _) (by decide) ?_ h ?_
    · exact (by simp [sld])
    · simp only [SubL, lkd, lkb, reduceCtorEq, Nat.reduceEqDiff, List.length_set, List.length_replicate]; repeat' (first | apply And.intro | rfl | trivial | (simp only [*]; done)))
 | (with_reducible refine here_loop (c := (.seq (.seq (.region 25 _ _) _) _)) ?_
    skip
    revert h
    with_reducible refine bind_elimY ?_
    intro o4 h hK4
    refine sw_loop (ι := Nat × Gl03Gen × Int × Int × Int) 40000000 (by decide) (fun x : Nat × Gl03Gen × Int × Int × Int => [(.s 0, some (.v (.mp 0 5 0 0))), (.s 1, some (.v (V.int x.2.2.1))), (.s 6, some (.v (V.int x.2.2.2.1))), (.s 7, some (.v (V.int x.2.2.2.2))), (.r 0, some (.o 5 [[.mp 1 4 0 0, .sl 2 1 0 x.2.1.args.length, V.int x.2.1.locals, .d (.row .own 2 (Rw GI2.cells x.2.1.code)), V.int x.2.1.most]])), (.r 1, some (.o 4 [[.d (.row .bor 1 (Rw (cI .u8) x.2.1.s.b)), V.int x.2.1.s.at0, .d (.p (.int .u64 x.2.1.s.mix)), V.int x.2.1.s.size]])), (.r 2, some (.o 1 (dd (Rw (cI .i64) x.2.1.args))))]) (fun x => x.1) (fun x => Yes (spec_l03Gen_expr.l4 (spec_l03Gen_expr kr) x.1 x.2.1 x.2.2.1 x.2.2.2.1 x.2.2.2.2) o4) (_, _, _, _, _) ?_ h ?_ ?_
    · exact (by simp [sld])
    · simp only [SubL, lkd, lkb, reduceCtorEq, Nat.reduceEqDiff, List.length_set, List.length_replicate]; repeat' (first | apply And.intro | rfl | trivial | (simp only [*]; done))
    rintro ⟨_ | k, a1, a2, a3, a4⟩ h
    · simp only [spec_l03Gen_expr.l4] at h; exact h.none
    simp only [spec_l03Gen_expr.l4] at h
)
 | (with_reducible refine here_next (N0 := 40000000) ?_
    skip
    refine nexts_to (_, _, _, _, _) (by decide) ?_ (Nat.lt_succ_self _) h ?_
    · exact (by simp [sld])
    · simp only [SubL, lkd, lkb, reduceCtorEq, Nat.reduceEqDiff, List.length_set, List.length_replicate]; repeat' (first | apply And.intro | rfl | trivial | (simp only [*]; done)))
 | (with_reducible refine here_join (a := (.seq (.region 1 _ _) _)) (b := (.seq (.region 8 _ _) _)) ?_
    skip
    revert h
    with_reducible refine bind_elimY ?_
    intro o1 h hK1
    unfold spec_l03Gen_expr.a1 at h
    refine sw_join (ι := Gl03Gen × Int) 10000000 (fun x : Gl03Gen × Int => [(.s 0, some (.v (.mp 0 5 0 0))), (.s 1, some (.v (V.int x.2))), (.s 4, some (.v (.mp 1 4 0 0))), (.r 0, some (.o 5 [[.mp 1 4 0 0, .sl 2 1 0 x.1.args.length, V.int x.1.locals, .d (.row .own 2 (Rw GI2.cells x.1.code)), V.int x.1.most]])), (.r 1, some (.o 4 [[.d (.row .bor 1 (Rw (cI .u8) x.1.s.b)), V.int x.1.s.at0, .d (.p (.int .u64 x.1.s.mix)), V.int x.1.s.size]])), (.r 2, some (.o 1 (dd (Rw (cI .i64) x.1.args))))]) (fun x => Yes (some (.inr x)) o1) ?_ ?_
    rotate_left
    rintro ⟨b1, b2⟩ h
    obtain rfl := h.get
    have h := hK1
    (try (simp only [Sum.elim_inl, Sum.elim_inr] at h))
    refine sw_gh ?_
    refine gh_sw ?_
    skip)
 | (with_reducible refine here_meet (N0 := 10000000) ?_
    skip
    refine meet_to (_, _) (by decide) ?_ h ?_
    · exact (by simp [sld])
    · simp only [SubL, lkd, lkb, reduceCtorEq, Nat.reduceEqDiff, List.length_set, List.length_replicate]; repeat' (first | apply And.intro | rfl | trivial | (simp only [*]; done)))
 | with_reducible refine sw_seq ?_
 | with_reducible refine seqQ_ret ?_
 | with_reducible refine seqQ_exit ?_
 | ((with_reducible refine wp_ite ?_ ?_)
    all_goals (intro hc; (try (simp only [Bool.not_eq_true, Bool.not_eq_false] at hc)); simp only [hc]))
 | (with_reducible refine rskip (hs := ?_) (h2 := ?_)
    · simp only [lkd, lkb, reduceCtorEq, Nat.reduceEqDiff]; done)
 | (with_reducible refine ryes (hs := ?_) (h := ?_)
    · simp only [lkd, lkb, reduceCtorEq, Nat.reduceEqDiff]; done)
 | (with_reducible refine rno (hs := ?_) (h := ?_)
    · simp only [lkd, lkb, reduceCtorEq, Nat.reduceEqDiff, Bool.not_true, Bool.not_false]; done)
 | (with_reducible apply regW_guardN
    · simp only [dstOk, Nat.reduceLT]
    · rfl
    · simp only [lkd, lkb, reduceCtorEq, Nat.reduceEqDiff]; rfl
    all_goals (intro hc; (try (simp only [Bool.not_true, Bool.not_false] at hc))))
 | (with_reducible apply sw_cond
    · simp only [lkd, lkb, reduceCtorEq, Nat.reduceEqDiff]; rfl
    all_goals (intro hc; try (cases hc; done)))
 | ((first
     | ((with_reducible refine gh_ret ?_)
        revert h
        with_reducible refine some_elim ?_
        rintro rfl)
     | (with_reducible refine here_call ?_
        revert h
        with_reducible refine bind_elim ?_
        intro t ht h
        (first
          | ((with_reducible refine here_call (f := 98) ?_)
             refine call_obj [1] (c_spec_l01Src_n ht) (by decide) ?_ ?_
             · first | exact .inl rfl | (refine .inr ⟨?_, ?_⟩; (focus (first | rfl | (simp only [nbd, nbb, Gl01Src_nb, GI2_nb, LcIi64_nb]; done))); (focus (simp [C.nb, V.nbLL, V.nbL, V.nb, D.nb]; done)))
             simp only [obd, hyb, hyd, Gl01Src_lend, GI2_lend, LcIi64_lend, lkd, lkb, reduceCtorEq, Nat.reduceEqDiff, Prog.wp, Prog.wp_bind, Prog.bind, Prog.ofO, List.take_of_length_le, *])
          | ((with_reducible refine here_call (f := 101) ?_)
             refine call_obj [0, 1, 2] (ih ht) (by decide) ?_ ?_
             · first | exact .inl rfl | (refine .inr ⟨?_, ?_⟩; (focus (first | rfl | (simp only [nbd, nbb, Gl01Src_nb, GI2_nb, LcIi64_nb]; done))); (focus (simp [C.nb, V.nbLL, V.nbL, V.nb, D.nb]; done)))
             simp only [obd, hyb, hyd, Gl01Src_lend, GI2_lend, LcIi64_lend, lkd, lkb, reduceCtorEq, Nat.reduceEqDiff, Prog.wp, Prog.wp_bind, Prog.bind, Prog.ofO, List.take_of_length_le, *])
          | ((with_reducible refine here_call (f := 102) ?_)
             refine call_obj [0, 1, 2] (c_spec_l03Gen_put ht) (by decide) ?_ ?_
             · first | exact .inl rfl | (refine .inr ⟨?_, ?_⟩; (focus (first | rfl | (simp only [nbd, nbb, Gl01Src_nb, GI2_nb, LcIi64_nb]; done))); (focus (simp [C.nb, V.nbLL, V.nbL, V.nb, D.nb]; done)))
             simp only [obd, hyb, hyd, Gl01Src_lend, GI2_lend, LcIi64_lend, lkd, lkb, reduceCtorEq, Nat.reduceEqDiff, Prog.wp, Prog.wp_bind, Prog.bind, Prog.ofO, List.take_of_length_le, *])
          | ((with_reducible refine here_call (f := 103) ?_)
             refine call_obj [1] (c_spec_l01Src_one ht) (by decide) ?_ ?_
             · first | exact .inl rfl | (refine .inr ⟨?_, ?_⟩; (focus (first | rfl | (simp only [nbd, nbb, Gl01Src_nb, GI2_nb, LcIi64_nb]; done))); (focus (simp [C.nb, V.nbLL, V.nbL, V.nb, D.nb]; done)))
             simp only [obd, hyb, hyd, Gl01Src_lend, GI2_lend, LcIi64_lend, lkd, lkb, reduceCtorEq, Nat.reduceEqDiff, Prog.wp, Prog.wp_bind, Prog.bind, Prog.ofO, List.take_of_length_le, *])
          | ((with_reducible refine here_call (f := 131) ?_)
             refine call_obj [0, 1, 2] (c_spec_l03Gen_full ht) (by decide) ?_ ?_
             · first | exact .inl rfl | (refine .inr ⟨?_, ?_⟩; (focus (first | rfl | (simp only [nbd, nbb, Gl01Src_nb, GI2_nb, LcIi64_nb]; done))); (focus (simp [C.nb, V.nbLL, V.nbL, V.nb, D.nb]; done)))
             simp only [obd, hyb, hyd, Gl01Src_lend, GI2_lend, LcIi64_lend, lkd, lkb, reduceCtorEq, Nat.reduceEqDiff, Prog.wp, Prog.wp_bind, Prog.bind, Prog.ofO, List.take_of_length_le, *])
          | ((with_reducible refine here_call (f := 133) ?_)
             refine call_obj [0, 1, 2] (c_spec_l03Gen_local ht) (by decide) ?_ ?_
             · first | exact .inl rfl | (refine .inr ⟨?_, ?_⟩; (focus (first | rfl | (simp only [nbd, nbb, Gl01Src_nb, GI2_nb, LcIi64_nb]; done))); (focus (simp [C.nb, V.nbLL, V.nbL, V.nb, D.nb]; done)))
             simp only [obd, hyb, hyd, Gl01Src_lend, GI2_lend, LcIi64_lend, lkd, lkb, reduceCtorEq, Nat.reduceEqDiff, Prog.wp, Prog.wp_bind, Prog.bind, Prog.ofO, List.take_of_length_le, *])
          | ((with_reducible refine here_call (f := 134) ?_)
             refine call_obj [1] (c_spec_l01Src_l02Num ht) (by decide) ?_ ?_
             · first | exact .inl rfl | (refine .inr ⟨?_, ?_⟩; (focus (first | rfl | (simp only [nbd, nbb, Gl01Src_nb, GI2_nb, LcIi64_nb]; done))); (focus (simp [C.nb, V.nbLL, V.nbL, V.nb, D.nb]; done)))
             simp only [obd, hyb, hyd, Gl01Src_lend, GI2_lend, LcIi64_lend, lkd, lkb, reduceCtorEq, Nat.reduceEqDiff, Prog.wp, Prog.wp_bind, Prog.bind, Prog.ofO, List.take_of_length_le, *])))
     | (with_reducible (first | refine ropD (h := ?_) | refine ropW (h := ?_))
        intro k hk)
     | skip)
    simp only [bn, lkb, evb, evd, Value.oneCell', setSeg, reduceCtorEq, Nat.reduceAdd, Nat.reduceMul, Nat.reduceSub, Nat.reduceLT, Nat.reduceLeDiff, Nat.reduceEqDiff, Int.reduceNeg, Int.reduceToNat, ty2, ty3, ty4, ty5, ty22, ty28, ty85, ty92, ty98, ty138, ty140, ty142, ty145, GI2.cells, Gl01Src.cells, cI, cB, cS, cL, Gl01Src_e, GI2_e, LcIi64_e, nilEqP, ne_eq, not_false_eq_true, not_true_eq_false, *]
    try (refine hk.use _ _ _ _ ?_; clear hk k))
 | fail)
  all_goals (try rfl)
  all_goals (try (simp; done))
  all_goals (try (simp_all; done))
set_option linter.defProp false
def spec_l06Step (k : Nat) (p0 : GProgram) (p1 : GState) : Option (GState) :=
  (idx p1.frames ((IntKind.i64.wrap (((p1.frames.length : Int)) - 1)))).bind fun m1 => (idx p0.funcs m1.func0).bind fun m2 => (idx m2.code m1.pc).bind fun m3 => (spec_Takes k p0 m3).bind fun t4 => gd (0 ≤ (IntKind.i64.wrap (((m1.stack.length : Int)) - t4)) ∧ (IntKind.i64.wrap (((m1.stack.length : Int)) - t4)) ≤ (m1.stack.length : Int)) ((spec_l06Nums (((m1.stack.drop (((IntKind.i64.wrap (((m1.stack.length : Int)) - t4))).toNat)).take ((m1.stack.length - ((IntKind.i64.wrap (((m1.stack.length : Int)) - t4))).toNat))))).bind fun t5 => gd (0 ≤ (IntKind.i64.wrap (((m1.stack.length : Int)) - t4)) ∧ (IntKind.i64.wrap (((m1.stack.length : Int)) - t4)) ≤ (m1.stack.length : Int)) (cond ((m3.a == 1)) (gd ((((IntKind.i64.wrap (((m1.stack.length : Int)) - t4))).toNat + 1) * 8 ≤ 35184372088832 ∧ ((IntKind.i64.wrap (((m1.stack.length : Int)) - t4))).toNat + 1 ≤ 35184372088832) (some ((⟨(p1.frames.set ((IntKind.i64.wrap (((p1.frames.length : Int)) - 1))).toNat ((⟨m1.func0, (IntKind.i64.wrap (m1.pc + 1)), m1.locals, ((m1.stack.take (((IntKind.i64.wrap (((m1.stack.length : Int)) - t4))).toNat)) ++ [m3.b])⟩ : GFrame))), p1.heap, p1.out, (IntKind.i64.wrap (p1.fuel0 - 1)), p1.done, p1.value, p1.trap⟩ : GState)))) (cond ((m3.a == 2)) ((idx m1.locals m3.b).bind fun m6 => gd ((((IntKind.i64.wrap (((m1.stack.length : Int)) - t4))).toNat + 1) * 8 ≤ 35184372088832 ∧ ((IntKind.i64.wrap (((m1.stack.length : Int)) - t4))).toNat + 1 ≤ 35184372088832) (some ((⟨(p1.frames.set (((IntKind.i64.wrap (((p1.frames.length : Int)) - 1))).toNat) (⟨m1.func0, (IntKind.i64.wrap (m1.pc + 1)), m1.locals, ((m1.stack.take (((IntKind.i64.wrap (((m1.stack.length : Int)) - t4))).toNat)) ++ [m6])⟩ : GFrame)), p1.heap, p1.out, (IntKind.i64.wrap (p1.fuel0 - 1)), p1.done, p1.value, p1.trap⟩ : GState)))) (cond ((m3.a == 3)) ((idx t5 0).bind fun m7 => (idx m1.locals m3.b).bind fun m8 => some ((⟨(p1.frames.set (((IntKind.i64.wrap (((p1.frames.length : Int)) - 1))).toNat) (⟨m1.func0, (IntKind.i64.wrap (m1.pc + 1)), (m1.locals.set m3.b.toNat m7), (m1.stack.take (((IntKind.i64.wrap (((m1.stack.length : Int)) - t4))).toNat))⟩ : GFrame)), p1.heap, p1.out, (IntKind.i64.wrap (p1.fuel0 - 1)), p1.done, p1.value, p1.trap⟩ : GState))) (cond ((m3.a == 4)) ((idx t5 0).bind fun m9 => gd ((((IntKind.i64.wrap (((m1.stack.length : Int)) - t4))).toNat + 2) * 8 ≤ 35184372088832 ∧ ((IntKind.i64.wrap (((m1.stack.length : Int)) - t4))).toNat + 2 ≤ 35184372088832) (some ((⟨(p1.frames.set ((IntKind.i64.wrap (((p1.frames.length : Int)) - 1))).toNat ((⟨m1.func0, (IntKind.i64.wrap (m1.pc + 1)), m1.locals, ((m1.stack.take (((IntKind.i64.wrap (((m1.stack.length : Int)) - t4))).toNat)) ++ [m9, m9])⟩ : GFrame))), p1.heap, p1.out, (IntKind.i64.wrap (p1.fuel0 - 1)), p1.done, p1.value, p1.trap⟩ : GState)))) (cond ((m3.a == 5)) (some ((⟨(p1.frames.set (((IntKind.i64.wrap (((p1.frames.length : Int)) - 1))).toNat) (⟨m1.func0, (IntKind.i64.wrap (m1.pc + 1)), m1.locals, (m1.stack.take (((IntKind.i64.wrap (((m1.stack.length : Int)) - t4))).toNat))⟩ : GFrame)), p1.heap, p1.out, (IntKind.i64.wrap (p1.fuel0 - 1)), p1.done, p1.value, p1.trap⟩ : GState))) (cond ((m3.a == 30)) (some ((⟨(p1.frames.set (((IntKind.i64.wrap (((p1.frames.length : Int)) - 1))).toNat) (⟨m1.func0, m3.b, m1.locals, (m1.stack.take (((IntKind.i64.wrap (((m1.stack.length : Int)) - t4))).toNat))⟩ : GFrame)), p1.heap, p1.out, (IntKind.i64.wrap (p1.fuel0 - 1)), p1.done, p1.value, p1.trap⟩ : GState))) (cond ((m3.a == 31)) ((idx t5 0).bind fun m10 => cond ((m10 == 0)) (some ((⟨(p1.frames.set (((IntKind.i64.wrap (((p1.frames.length : Int)) - 1))).toNat) (⟨m1.func0, m3.b, m1.locals, (m1.stack.take (((IntKind.i64.wrap (((m1.stack.length : Int)) - t4))).toNat))⟩ : GFrame)), p1.heap, p1.out, (IntKind.i64.wrap (p1.fuel0 - 1)), p1.done, p1.value, p1.trap⟩ : GState))) (some ((⟨(p1.frames.set (((IntKind.i64.wrap (((p1.frames.length : Int)) - 1))).toNat) (⟨m1.func0, (IntKind.i64.wrap (m1.pc + 1)), m1.locals, (m1.stack.take (((IntKind.i64.wrap (((m1.stack.length : Int)) - t4))).toNat))⟩ : GFrame)), p1.heap, p1.out, (IntKind.i64.wrap (p1.fuel0 - 1)), p1.done, p1.value, p1.trap⟩ : GState)))) (cond ((m3.a == 32)) (cond ((decide (((p1.frames.length : Int)) ≥ 10))) ((spec_l06Trap ((⟨(p1.frames.set (((IntKind.i64.wrap (((p1.frames.length : Int)) - 1))).toNat) (⟨m1.func0, (IntKind.i64.wrap (m1.pc + 1)), m1.locals, (m1.stack.take (((IntKind.i64.wrap (((m1.stack.length : Int)) - t4))).toNat))⟩ : GFrame)), p1.heap, p1.out, (IntKind.i64.wrap (p1.fuel0 - 1)), p1.done, p1.value, p1.trap⟩ : GState)) 15).bind fun t11 => some t11) ((spec_l06Frame p0 m3.b t5).bind fun t12 => gd ((p1.frames.length + 1) * 64 ≤ 35184372088832 ∧ p1.frames.length + 1 ≤ 35184372088832) (some ((⟨((p1.frames.set (((IntKind.i64.wrap (((p1.frames.length : Int)) - 1))).toNat) (⟨m1.func0, (IntKind.i64.wrap (m1.pc + 1)), m1.locals, (m1.stack.take (((IntKind.i64.wrap (((m1.stack.length : Int)) - t4))).toNat))⟩ : GFrame)) ++ [t12]), p1.heap, p1.out, (IntKind.i64.wrap (p1.fuel0 - 1)), p1.done, p1.value, p1.trap⟩ : GState))))) (cond ((m3.a == 33)) (gd (0 ≤ (IntKind.i64.wrap (((p1.frames.length : Int)) - 1)) ∧ (IntKind.i64.wrap (((p1.frames.length : Int)) - 1)) ≤ (p1.frames.length : Int)) (cond ((((((IntKind.i64.wrap (((p1.frames.length : Int)) - 1))).toNat : Int)) == 0)) ((idx t5 0).bind fun m13 => some ((⟨(((p1.frames.set (((IntKind.i64.wrap (((p1.frames.length : Int)) - 1))).toNat) (⟨m1.func0, (IntKind.i64.wrap (m1.pc + 1)), m1.locals, (m1.stack.take (((IntKind.i64.wrap (((m1.stack.length : Int)) - t4))).toNat))⟩ : GFrame))).take (((IntKind.i64.wrap (((p1.frames.length : Int)) - 1))).toNat)), p1.heap, p1.out, (IntKind.i64.wrap (p1.fuel0 - 1)), true, m13, p1.trap⟩ : GState))) (gd (0 ≤ (IntKind.i64.wrap (((((IntKind.i64.wrap (((p1.frames.length : Int)) - 1))).toNat : Int)) - 1)) ∧ (IntKind.i64.wrap (((((IntKind.i64.wrap (((p1.frames.length : Int)) - 1))).toNat : Int)) - 1)) < (((IntKind.i64.wrap (((p1.frames.length : Int)) - 1))).toNat : Int)) ((idx ((p1.frames.set (((IntKind.i64.wrap (((p1.frames.length : Int)) - 1))).toNat) (⟨m1.func0, (IntKind.i64.wrap (m1.pc + 1)), m1.locals, (m1.stack.take (((IntKind.i64.wrap (((m1.stack.length : Int)) - t4))).toNat))⟩ : GFrame))) ((IntKind.i64.wrap (((((IntKind.i64.wrap (((p1.frames.length : Int)) - 1))).toNat : Int)) - 1)))).bind fun m14 => (idx t5 0).bind fun m15 => gd ((m14.stack.length + 1) * 8 ≤ 35184372088832 ∧ m14.stack.length + 1 ≤ 35184372088832) (some ((⟨(((((p1.frames.set (((IntKind.i64.wrap (((p1.frames.length : Int)) - 1))).toNat) (⟨m1.func0, (IntKind.i64.wrap (m1.pc + 1)), m1.locals, (m1.stack.take (((IntKind.i64.wrap (((m1.stack.length : Int)) - t4))).toNat))⟩ : GFrame))).set ((IntKind.i64.wrap (((((IntKind.i64.wrap (((p1.frames.length : Int)) - 1))).toNat : Int)) - 1))).toNat ((⟨m14.func0, m14.pc, m14.locals, (m14.stack ++ [m15])⟩ : GFrame)))).take (((IntKind.i64.wrap (((p1.frames.length : Int)) - 1))).toNat)), p1.heap, p1.out, (IntKind.i64.wrap (p1.fuel0 - 1)), p1.done, p1.value, p1.trap⟩ : GState))))))) (cond ((m3.a == 38)) ((idx t5 0).bind fun m16 => gd ((p1.out.length + 1) * 8 ≤ 35184372088832 ∧ p1.out.length + 1 ≤ 35184372088832) (some ((⟨(p1.frames.set (((IntKind.i64.wrap (((p1.frames.length : Int)) - 1))).toNat) (⟨m1.func0, (IntKind.i64.wrap (m1.pc + 1)), m1.locals, (m1.stack.take (((IntKind.i64.wrap (((m1.stack.length : Int)) - t4))).toNat))⟩ : GFrame)), p1.heap, (p1.out ++ [m16]), (IntKind.i64.wrap (p1.fuel0 - 1)), p1.done, p1.value, p1.trap⟩ : GState)))) ((spec_l06Do_v2F2c1n0 k m3.a t5 ((⟨(p1.frames.set (((IntKind.i64.wrap (((p1.frames.length : Int)) - 1))).toNat) (⟨m1.func0, (IntKind.i64.wrap (m1.pc + 1)), m1.locals, (m1.stack.take (((IntKind.i64.wrap (((m1.stack.length : Int)) - t4))).toNat))⟩ : GFrame)), p1.heap, p1.out, (IntKind.i64.wrap (p1.fuel0 - 1)), p1.done, p1.value, p1.trap⟩ : GState))).bind fun t17 => cond ((t17.1.b != 0)) ((spec_l06Trap ((⟨(p1.frames.set (((IntKind.i64.wrap (((p1.frames.length : Int)) - 1))).toNat) (⟨m1.func0, (IntKind.i64.wrap (m1.pc + 1)), m1.locals, (m1.stack.take (((IntKind.i64.wrap (((m1.stack.length : Int)) - t4))).toNat))⟩ : GFrame)), t17.2.heap, t17.2.out, t17.2.fuel0, t17.2.done, t17.2.value, t17.2.trap⟩ : GState)) t17.1.b).bind fun t18 => some t18) ((spec_Puts k m3).bind fun t19 => cond ((decide (t19 > 0))) ((idx ((p1.frames.set (((IntKind.i64.wrap (((p1.frames.length : Int)) - 1))).toNat) (⟨m1.func0, (IntKind.i64.wrap (m1.pc + 1)), m1.locals, (m1.stack.take (((IntKind.i64.wrap (((m1.stack.length : Int)) - t4))).toNat))⟩ : GFrame))) (((IntKind.i64.wrap (((p1.frames.length : Int)) - 1))))).bind fun m20 => gd ((m20.stack.length + 1) * 8 ≤ 35184372088832 ∧ m20.stack.length + 1 ≤ 35184372088832) (some ((⟨(((p1.frames.set (((IntKind.i64.wrap (((p1.frames.length : Int)) - 1))).toNat) (⟨m1.func0, (IntKind.i64.wrap (m1.pc + 1)), m1.locals, (m1.stack.take (((IntKind.i64.wrap (((m1.stack.length : Int)) - t4))).toNat))⟩ : GFrame))).set ((IntKind.i64.wrap (((p1.frames.length : Int)) - 1))).toNat ((⟨m20.func0, m20.pc, m20.locals, (m20.stack ++ [t17.1.a])⟩ : GFrame))), t17.2.heap, t17.2.out, t17.2.fuel0, t17.2.done, t17.2.value, t17.2.trap⟩ : GState)))) (some ((⟨(p1.frames.set (((IntKind.i64.wrap (((p1.frames.length : Int)) - 1))).toNat) (⟨m1.func0, (IntKind.i64.wrap (m1.pc + 1)), m1.locals, (m1.stack.take (((IntKind.i64.wrap (((m1.stack.length : Int)) - t4))).toNat))⟩ : GFrame)), t17.2.heap, t17.2.out, t17.2.fuel0, t17.2.done, t17.2.value, t17.2.trap⟩ : GState))))))))))))))))
theorem nbl_spec_l06Step : ∀ xs : List D, V.nbL (xs.map V.d) = D.nbL xs
  | [] => rfl
  | x :: xs => by simp only [List.map_cons, V.nbL, V.nb, D.nbL, nbl_spec_l06Step xs]
theorem nbdd_spec_l06Step : ∀ xs : List (List D), V.nbLL (dd xs) = D.nbLL xs
  | [] => rfl
  | x :: xs => by have := nbdd_spec_l06Step xs; unfold dd at this ⊢; simp only [List.map_cons, V.nbLL, D.nbLL, nbl_spec_l06Step x, this]
theorem c_spec_l06Step {k : Nat} {p0 : GProgram} {p1 : GState} {r : GState} (h : spec_l06Step k p0 p1 = some r) : Con Tryz.prog 41 [.agg [.d (.row .bor 3 (Rw (GFunc.cells .bor) p0.funcs))], .mp 0 7 0 0] [.o 7 [[.d (.row .own 4 (Rw (GFrame.cells .own) p1.frames)), .d (.row .own 1 (Rw (cL .own 1 (cI .i64)) p1.heap)), .d (.row .own 1 (Rw (cI .i64) p1.out)), V.int p1.fuel0, V.bool p1.done, V.int p1.value, V.int p1.trap]]] (.tup []) [.o 7 [[.d (.row .own 4 (Rw (GFrame.cells .own) r.frames)), .d (.row .own 1 (Rw (cL .own 1 (cI .i64)) r.heap)), .d (.row .own 1 (Rw (cI .i64) r.out)), V.int r.fuel0, V.bool r.done, V.int r.value, V.int r.trap]]] := by
  refine csw Tryz.func41 Tryz.call41 (by simp [Tryz.ntmps41]) (h := ?_)
  rw [Tryz.ntmps41, Tryz.results41]
  unfold spec_l06Step at h
  replace h := Yes.mk h
  simp only [entryS, entryO, Nat.reduceAdd, List.length_nil, List.length_cons]
  repeat' (first
 | (with_reducible refine here_reg (i := 2) ?_
    refine sw_gh ?_
    with_reducible apply gh_nameCell 0 0
    · simp only [lkd, lkb, reduceCtorEq, Nat.reduceEqDiff]; rfl
    · rfl
    simp only [List.set_cons_zero, List.set_cons_succ, Nat.reduceAdd, Rw_length]
    refine gh_sw ?_)
 | (with_reducible refine here_reg (i := 4) ?_
    refine sw_gh ?_
    with_reducible apply gh_nameElem 641 (((IntKind.i64.wrap (((p1.frames.length : Int)) - 1))).toNat) 3
    · simp only [lkd, lkb, reduceCtorEq, Nat.reduceEqDiff]; rfl
    · simp only [bn, lkb, evb, evd, Value.oneCell', setSeg, reduceCtorEq, Nat.reduceAdd, Nat.reduceMul, Nat.reduceSub, Nat.reduceLT, Nat.reduceLeDiff, Nat.reduceEqDiff, Int.reduceNeg, Int.reduceToNat, ty2, ty3, ty4, ty5, ty23, ty25, ty26, ty27, ty28, ty30, ty56, ty70, ty92, ty94, ty98, ty120, ty126, GFrame.cells, GFunc.cells, GI2.cells, GProgram.cells, GState.cells, cI, cB, cS, cL, GI2_e, GFunc_e, GProgram_e, GFrame_e, GState_e, LcIi64_e, buildP, buildSliceP, putParts, structPlaces, chunks, List.replicate, List.flatten_nil, List.flatten_cons, Option.bind_some, bb, GFrame_b, List.length_take, Nat.min_eq_left, nilEqP, ne_eq, not_false_eq_true, not_true_eq_false, *]; try rfl
    · rfl
    simp only [List.set_cons_zero, List.set_cons_succ, List.set_set, Nat.reduceAdd, Rw_length]
    refine gh_sw ?_)
 | (with_reducible refine here_reg (i := 17) ?_
    refine sw_gh ?_
    with_reducible apply gh_nameElem 641 (((IntKind.i64.wrap (((p1.frames.length : Int)) - 1))).toNat) 2
    · simp only [lkd, lkb, reduceCtorEq, Nat.reduceEqDiff]; rfl
    · simp only [bn, lkb, evb, evd, Value.oneCell', setSeg, reduceCtorEq, Nat.reduceAdd, Nat.reduceMul, Nat.reduceSub, Nat.reduceLT, Nat.reduceLeDiff, Nat.reduceEqDiff, Int.reduceNeg, Int.reduceToNat, ty2, ty3, ty4, ty5, ty23, ty25, ty26, ty27, ty28, ty30, ty56, ty70, ty92, ty94, ty98, ty120, ty126, GFrame.cells, GFunc.cells, GI2.cells, GProgram.cells, GState.cells, cI, cB, cS, cL, GI2_e, GFunc_e, GProgram_e, GFrame_e, GState_e, LcIi64_e, buildP, buildSliceP, putParts, structPlaces, chunks, List.replicate, List.flatten_nil, List.flatten_cons, Option.bind_some, bb, GFrame_b, List.length_take, Nat.min_eq_left, nilEqP, ne_eq, not_false_eq_true, not_true_eq_false, *]; try rfl
    · rfl
    simp only [List.set_cons_zero, List.set_cons_succ, List.set_set, Nat.reduceAdd, Rw_length]
    refine gh_sw ?_)
 | (with_reducible refine here_reg (i := 19) ?_
    refine sw_gh ?_
    with_reducible apply gh_nameElem 641 (((IntKind.i64.wrap (((p1.frames.length : Int)) - 1))).toNat) 2
    · simp only [lkd, lkb, reduceCtorEq, Nat.reduceEqDiff]; rfl
    · simp only [bn, lkb, evb, evd, Value.oneCell', setSeg, reduceCtorEq, Nat.reduceAdd, Nat.reduceMul, Nat.reduceSub, Nat.reduceLT, Nat.reduceLeDiff, Nat.reduceEqDiff, Int.reduceNeg, Int.reduceToNat, ty2, ty3, ty4, ty5, ty23, ty25, ty26, ty27, ty28, ty30, ty56, ty70, ty92, ty94, ty98, ty120, ty126, GFrame.cells, GFunc.cells, GI2.cells, GProgram.cells, GState.cells, cI, cB, cS, cL, GI2_e, GFunc_e, GProgram_e, GFrame_e, GState_e, LcIi64_e, buildP, buildSliceP, putParts, structPlaces, chunks, List.replicate, List.flatten_nil, List.flatten_cons, Option.bind_some, bb, GFrame_b, List.length_take, Nat.min_eq_left, nilEqP, ne_eq, not_false_eq_true, not_true_eq_false, *]; try rfl
    · rfl
    simp only [List.set_cons_zero, List.set_cons_succ, List.set_set, Nat.reduceAdd, Rw_length]
    refine gh_sw ?_)
 | (with_reducible refine here_reg (i := 38) ?_
    refine sw_gh ?_
    with_reducible apply gh_nameElem 641 (((IntKind.i64.wrap (((((IntKind.i64.wrap (((p1.frames.length : Int)) - 1))).toNat : Int)) - 1))).toNat) 3
    · simp only [lkd, lkb, reduceCtorEq, Nat.reduceEqDiff]; rfl
    · simp only [bn, lkb, evb, evd, Value.oneCell', setSeg, reduceCtorEq, Nat.reduceAdd, Nat.reduceMul, Nat.reduceSub, Nat.reduceLT, Nat.reduceLeDiff, Nat.reduceEqDiff, Int.reduceNeg, Int.reduceToNat, ty2, ty3, ty4, ty5, ty23, ty25, ty26, ty27, ty28, ty30, ty56, ty70, ty92, ty94, ty98, ty120, ty126, GFrame.cells, GFunc.cells, GI2.cells, GProgram.cells, GState.cells, cI, cB, cS, cL, GI2_e, GFunc_e, GProgram_e, GFrame_e, GState_e, LcIi64_e, buildP, buildSliceP, putParts, structPlaces, chunks, List.replicate, List.flatten_nil, List.flatten_cons, Option.bind_some, bb, GFrame_b, List.length_take, Nat.min_eq_left, nilEqP, ne_eq, not_false_eq_true, not_true_eq_false, *]; try rfl
    · rfl
    simp only [List.set_cons_zero, List.set_cons_succ, List.set_set, Nat.reduceAdd, Rw_length]
    refine gh_sw ?_)
 | (with_reducible refine here_reg (i := 40) ?_
    refine sw_gh ?_
    with_reducible apply gh_nameCell 0 2
    · simp only [lkd, lkb, reduceCtorEq, Nat.reduceEqDiff]; rfl
    · rfl
    simp only [List.set_cons_zero, List.set_cons_succ, Nat.reduceAdd, Rw_length]
    refine gh_sw ?_)
 | (with_reducible (first | refine sw_reg ?_ | refine sw_ret ?_ | refine sw_skip ?_ | refine sw_block ?_ | refine sw_exit ?_ | refine seqQ_normal ?_ | refine blockQ_normal ?_ | refine blockQ_ret ?_ | refine blockQ_this ?_ | refine blockQ_other (by decide) ?_ | refine regW_nil ?_ | refine sw_draw mixed ?_ | refine retQ_ret ?_ | refine retQ_normal ?_))
 | (with_reducible refine regD_nil ?_
    refine ⟨by kernel_rfl, ?_⟩)
 | (revert h; (first | ((with_reducible refine idx_elim ?_); intro m hm1 hm2 hm3 h; (try (simp only [Int.reduceToNat] at hm3)); (try (revert hm3; (with_reducible apply same_elim); (focus (with_reducible assumption)); rintro rfl)); (try (simp only [List.length_set, List.length_cons, List.length_nil, List.length_replicate, Nat.reduceAdd, Int.cast_ofNat_Int, Nat.zero_add, List.length_append] at hm2))) | (with_reducible refine sidx_elim ?_; intro m hm1 hm3 h) | (with_reducible refine gd_elim ?_; intro hg h; try (have hg2 := hg.2; have hg := hg.1; (try (simp only [Nat.reduceLeDiff] at hg2)); (try (revert hg2; (with_reducible refine toNat_elim hg ?_); intro hg2 hg4)); try (have hg3 := hg2.2; have hg2 := hg2.1; (try (simp only [Nat.reduceLeDiff] at hg3))))) | (with_reducible refine condt_elim ?_ ?_; (focus (with_reducible assumption)); intro h) | (with_reducible refine condf_elim ?_ ?_; (focus (with_reducible assumption)); intro h)))
 | with_reducible refine sw_seq ?_
 | with_reducible refine seqQ_ret ?_
 | with_reducible refine seqQ_exit ?_
 | (with_reducible refine here_retw ?_
    with_reducible apply gh_resRow 641
    · simp only [lkd, lkb, reduceCtorEq, Nat.reduceEqDiff]; rfl
    · first | (simp only [Rw_length, List.length_set]; omega) | (simp [Rw_length]; omega)
    simp only [rxb, Nat.reduceAdd, Nat.reduceLeDiff, rxd, lkd, lkb, reduceCtorEq, Nat.reduceEqDiff, mmb, GI2_Dset, GFunc_Dset, GProgram_Dset, GFrame_Dset, GState_Dset, LcIi64_Dset, *])
 | (with_reducible refine here_retw ?_
    with_reducible apply gh_resSl 0 0
    · simp only [lkd, lkb, reduceCtorEq, Nat.reduceEqDiff]; rfl
    · rfl
    simp only [rxb, Nat.reduceAdd, Nat.reduceLeDiff, rxd, lkd, lkb, reduceCtorEq, Nat.reduceEqDiff, *])
 | ((with_reducible refine wp_ite ?_ ?_)
    all_goals (intro hc; (try (simp only [Bool.not_eq_true, Bool.not_eq_false] at hc)); simp only [hc]))
 | (with_reducible refine rskip (hs := ?_) (h2 := ?_)
    · simp only [lkd, lkb, reduceCtorEq, Nat.reduceEqDiff]; done)
 | (with_reducible refine ryes (hs := ?_) (h := ?_)
    · simp only [lkd, lkb, reduceCtorEq, Nat.reduceEqDiff]; done)
 | (with_reducible refine rno (hs := ?_) (h := ?_)
    · simp only [lkd, lkb, reduceCtorEq, Nat.reduceEqDiff, Bool.not_true, Bool.not_false]; done)
 | (with_reducible apply regW_guardN
    · simp only [dstOk, Nat.reduceLT]
    · rfl
    · simp only [lkd, lkb, reduceCtorEq, Nat.reduceEqDiff]; rfl
    all_goals (intro hc; (try (simp only [Bool.not_true, Bool.not_false] at hc))))
 | (with_reducible apply sw_cond
    · simp only [lkd, lkb, reduceCtorEq, Nat.reduceEqDiff]; rfl
    all_goals (intro hc; try (cases hc; done)))
 | ((first
     | ((with_reducible refine gh_ret ?_)
        revert h
        with_reducible refine some_elim ?_
        rintro rfl)
     | (with_reducible refine here_call ?_
        revert h
        with_reducible refine bind_elim ?_
        intro t ht h
        (first
          | ((with_reducible refine here_call (f := 83) ?_)
             refine call_autoE (c_spec_l06Nums ht) ?_ ?_ ?_
             · simp only [hyb, hyd, GI2_lend, GFunc_lend, GProgram_lend, GFrame_lend, GState_lend, LcIi64_lend, Nat.add_sub_cancel', List.take_of_length_le, lkd, lkb, reduceCtorEq, Nat.reduceEqDiff, *]; first | rfl | done
             · first | rfl | (simp only [nbd, nbb, GI2_nb, GFunc_nb, GProgram_nb, GFrame_nb, GState_nb, LcIi64_nb]; done)
             simp only [V.namesOf, V.namesOfL, List.foldl_cons, List.foldl_nil, List.nil_append, List.append_nil, List.cons_append])
          | ((with_reducible refine here_call (f := 85) ?_)
             refine call_dataE (c_spec_Takes ht) ?_ rfl ?_
             · first | rfl | (simp; done))
          | ((with_reducible refine here_call (f := 86) ?_)
             refine call_obj [0] (c_spec_l06Trap ht) (by decide) ?_ ?_
             · first | exact .inl rfl | (refine .inr ⟨?_, ?_⟩; (focus (first | rfl | (simp only [nbd, nbb, GI2_nb, GFunc_nb, GProgram_nb, GFrame_nb, GState_nb, LcIi64_nb]; done))); (focus (simp [C.nb, V.nbLL, V.nbL, V.nb, D.nb, nbdd_spec_l06Step, nbd, nbb, GI2_nb, GFunc_nb, GProgram_nb, GFrame_nb, GState_nb, LcIi64_nb]; done)))
             simp only [obd, hyb, hyd, GI2_lend, GFunc_lend, GProgram_lend, GFrame_lend, GState_lend, LcIi64_lend, Nat.add_sub_cancel', lkd, lkb, reduceCtorEq, Nat.reduceEqDiff, Prog.wp, Prog.wp_bind, Prog.bind, Prog.ofO, List.take_of_length_le, *]
             try (refine ⟨by first | rfl | decide, ?_⟩))
          | ((with_reducible refine here_call (f := 87) ?_)
             refine call_autoE (c_spec_l06Frame ht) ?_ ?_ ?_
             · simp only [hyb, hyd, GI2_lend, GFunc_lend, GProgram_lend, GFrame_lend, GState_lend, LcIi64_lend, Nat.add_sub_cancel', List.take_of_length_le, lkd, lkb, reduceCtorEq, Nat.reduceEqDiff, *]; first | rfl | done
             · first | rfl | (simp only [nbd, nbb, GI2_nb, GFunc_nb, GProgram_nb, GFrame_nb, GState_nb, LcIi64_nb]; done)
             simp only [V.namesOf, V.namesOfL, List.foldl_cons, List.foldl_nil, List.nil_append, List.append_nil, List.cons_append])
          | ((with_reducible refine here_call (f := 88) ?_)
             refine call_obj [0, 641] (c_spec_l06Do_v2F2c1n0 ht) (by decide) ?_ ?_
             · first | exact .inl rfl | (refine .inr ⟨?_, ?_⟩; (focus (first | rfl | (simp only [nbd, nbb, GI2_nb, GFunc_nb, GProgram_nb, GFrame_nb, GState_nb, LcIi64_nb]; done))); (focus (simp [C.nb, V.nbLL, V.nbL, V.nb, D.nb, nbdd_spec_l06Step, nbd, nbb, GI2_nb, GFunc_nb, GProgram_nb, GFrame_nb, GState_nb, LcIi64_nb]; done)))
             simp only [obd, hyb, hyd, GI2_lend, GFunc_lend, GProgram_lend, GFrame_lend, GState_lend, LcIi64_lend, Nat.add_sub_cancel', lkd, lkb, reduceCtorEq, Nat.reduceEqDiff, Prog.wp, Prog.wp_bind, Prog.bind, Prog.ofO, List.take_of_length_le, *]
             try (refine ⟨by first | rfl | decide, ?_⟩))
          | ((with_reducible refine here_call (f := 89) ?_)
             refine call_dataE (c_spec_Puts ht) ?_ rfl ?_
             · first | rfl | (simp; done))))
     | ((first | with_reducible apply regD_opLK [(641, none), (0, none)] (dst := some 197) (op := .call { callee := .value (.func 86), args := _, argTypes := _ }) | with_reducible apply regW_opLK [(641, none), (0, none)] (dst := some 197) (op := .call { callee := .value (.func 86), args := _, argTypes := _ }))
        · simp only [dstOk, Nat.reduceLT]
        · simp only [Nat.reduceAdd]; rfl
        intro k hk
        with_reducible apply pre_row 641
        · simp only [lkd, lkb, reduceCtorEq, Nat.reduceEqDiff]; rfl
        · first | (simp only [Rw_length, List.length_set]; omega) | (simp [Rw_length]; omega)
        simp only [rxb, Nat.reduceAdd, Nat.reduceLeDiff, rxd, lkd, lkb, reduceCtorEq, Nat.reduceEqDiff, GI2_Dset, GFunc_Dset, GProgram_Dset, GFrame_Dset, GState_Dset, LcIi64_Dset, *]
        with_reducible apply pre_obj 0
        · simp only [lkd, lkb, reduceCtorEq, Nat.reduceEqDiff]; rfl
        simp only [rxb, Nat.reduceAdd, Nat.reduceLeDiff, rxd, lkd, lkb, reduceCtorEq, Nat.reduceEqDiff, GI2_Dset, GFunc_Dset, GProgram_Dset, GFrame_Dset, GState_Dset, LcIi64_Dset, *]
        with_reducible apply pre_nil)
     | ((first | with_reducible apply regD_opLK [(641, none)] (dst := some 209) (op := .call { callee := .builtin .append, args := _, argTypes := _ }) | with_reducible apply regW_opLK [(641, none)] (dst := some 209) (op := .call { callee := .builtin .append, args := _, argTypes := _ }))
        · simp only [dstOk, Nat.reduceLT]
        · simp only [Nat.reduceAdd]; rfl
        intro k hk
        with_reducible apply pre_row 641
        · simp only [lkd, lkb, reduceCtorEq, Nat.reduceEqDiff]; rfl
        · first | (simp only [Rw_length, List.length_set]; omega) | (simp [Rw_length]; omega)
        simp only [rxb, Nat.reduceAdd, Nat.reduceLeDiff, rxd, lkd, lkb, reduceCtorEq, Nat.reduceEqDiff, GI2_Dset, GFunc_Dset, GProgram_Dset, GFrame_Dset, GState_Dset, LcIi64_Dset, *]
        with_reducible apply pre_nil)
     | ((first | with_reducible apply regD_opLK [(641, none)] (dst := some 253) (op := .indexAddr _ _ _) | with_reducible apply regW_opLK [(641, none)] (dst := some 253) (op := .indexAddr _ _ _))
        · simp only [dstOk, Nat.reduceLT]
        · simp only [Nat.reduceAdd]; rfl
        intro k hk
        with_reducible apply pre_row 641
        · simp only [lkd, lkb, reduceCtorEq, Nat.reduceEqDiff]; rfl
        · first | (simp only [Rw_length, List.length_set]; omega) | (simp [Rw_length]; omega)
        simp only [rxb, Nat.reduceAdd, Nat.reduceLeDiff, rxd, lkd, lkb, reduceCtorEq, Nat.reduceEqDiff, GI2_Dset, GFunc_Dset, GProgram_Dset, GFrame_Dset, GState_Dset, LcIi64_Dset, *]
        with_reducible apply pre_nil)
     | ((first | with_reducible apply regD_opLK [(641, none)] (dst := some 85) (op := .call { callee := .value (.func 88), args := _, argTypes := _ }) | with_reducible apply regW_opLK [(641, none)] (dst := some 85) (op := .call { callee := .value (.func 88), args := _, argTypes := _ }))
        · simp only [dstOk, Nat.reduceLT]
        · simp only [Nat.reduceAdd]; rfl
        intro k hk
        with_reducible apply pre_row 641
        · simp only [lkd, lkb, reduceCtorEq, Nat.reduceEqDiff]; rfl
        · first | (simp only [Rw_length, List.length_set]; omega) | (simp [Rw_length]; omega)
        simp only [rxb, Nat.reduceAdd, Nat.reduceLeDiff, rxd, lkd, lkb, reduceCtorEq, Nat.reduceEqDiff, GI2_Dset, GFunc_Dset, GProgram_Dset, GFrame_Dset, GState_Dset, LcIi64_Dset, *]
        with_reducible apply pre_nil)
     | ((first | with_reducible apply regD_opLK [(0, none)] (dst := some 92) (op := .call { callee := .value (.func 86), args := _, argTypes := _ }) | with_reducible apply regW_opLK [(0, none)] (dst := some 92) (op := .call { callee := .value (.func 86), args := _, argTypes := _ }))
        · simp only [dstOk, Nat.reduceLT]
        · simp only [Nat.reduceAdd]; rfl
        intro k hk
        with_reducible apply pre_obj 0
        · simp only [lkd, lkb, reduceCtorEq, Nat.reduceEqDiff]; rfl
        simp only [rxb, Nat.reduceAdd, Nat.reduceLeDiff, rxd, lkd, lkb, reduceCtorEq, Nat.reduceEqDiff, GI2_Dset, GFunc_Dset, GProgram_Dset, GFrame_Dset, GState_Dset, LcIi64_Dset, *]
        with_reducible apply pre_nil)
     | (with_reducible (first | refine ropD (h := ?_) | refine ropW (h := ?_))
        intro k hk)
     | skip)
    simp only [bn, lkb, evb, evd, Value.oneCell', setSeg, reduceCtorEq, Nat.reduceAdd, Nat.reduceMul, Nat.reduceSub, Nat.reduceLT, Nat.reduceLeDiff, Nat.reduceEqDiff, Int.reduceNeg, Int.reduceToNat, ty2, ty3, ty4, ty5, ty23, ty25, ty26, ty27, ty28, ty30, ty56, ty70, ty92, ty94, ty98, ty120, ty126, GFrame.cells, GFunc.cells, GI2.cells, GProgram.cells, GState.cells, cI, cB, cS, cL, GI2_e, GFunc_e, GProgram_e, GFrame_e, GState_e, LcIi64_e, buildP, buildSliceP, putParts, structPlaces, chunks, List.replicate, List.flatten_nil, List.flatten_cons, Option.bind_some, bb, GFrame_b, List.length_take, Nat.min_eq_left, nilEqP, ne_eq, not_false_eq_true, not_true_eq_false, *]
    try (refine hk.use _ _ _ _ ?_; clear hk k))
 | fail)
  all_goals (try (simp [List.take_of_length_le]; done))
  all_goals (try rfl)
  all_goals (try (simp; done))
  all_goals (try (simp_all; done))
end Go.Proofs.YtdlaplgofgklnaaGreat