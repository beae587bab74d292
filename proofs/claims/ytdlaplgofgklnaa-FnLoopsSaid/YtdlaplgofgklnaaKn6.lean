/- WHAT IS PROVED: an abstract walker over the model, what some functions of the program answer, and laws of these answers, one behind the other. Conditions: none. -/
import Derived.Test.YtdlaplgofgklnaaKn5
namespace Go.Proofs.Ytdlaplgofgklnaa
open Go.Proofs Go.Proofs.Ytdlaplgofgklnaa.L
set_option maxHeartbeats 1000000
set_option linter.unusedSimpArgs false
set_option linter.unusedVariables false
set_option maxRecDepth 100000
def spec_l03Gen_expr.a2 (rec : Gl03Gen → Int → Option (Gl03Gen)) (k : Nat) (a1 : Gl03Gen) (a2 : Int) : Option (Gl03Gen × Int × Bool) :=
  cond ((decide (a2 ≤ 0))) (some (a1, a2, true)) ((spec_l03Gen_full a1).bind fun t1 => gd (t1.2.args.length = a1.args.length) (cond t1.1 (some (t1.2, a2, true)) ((spec_l01Src_one k t1.2.s 3).bind fun t2 => some ((⟨t2.2, t1.2.args, t1.2.locals, t1.2.code, t1.2.most⟩ : Gl03Gen), a2, t2.1))))
def spec_l03Gen_expr.a3 (rec : Gl03Gen → Int → Option (Gl03Gen)) (k : Nat) (a1 : Gl03Gen) : Option ((Gl03Gen) ⊕ (Gl03Gen)) :=
  cond ((decide (a1.locals > 0))) ((spec_l01Src_one k a1.s 2).bind fun t3 => cond t3.1 ((spec_l03Gen_local k ((⟨t3.2, a1.args, a1.locals, a1.code, a1.most⟩ : Gl03Gen))).bind fun t4 => gd (t4.2.args.length = a1.args.length) ((spec_l03Gen_put t4.2 2 t4.1).bind fun t5 => gd (t5.2.args.length = a1.args.length) (some (.inl (t5.2))))) (some (.inr ((⟨t3.2, a1.args, a1.locals, a1.code, a1.most⟩ : Gl03Gen))))) (some (.inr (a1)))
def spec_l03Gen_expr.a1 (rec : Gl03Gen → Int → Option (Gl03Gen)) (k : Nat) (a1 : Gl03Gen) (a2 : Int) : Option ((Gl03Gen) ⊕ (Gl03Gen × Int)) :=
  (spec_l03Gen_expr.a2 rec k a1 a2).bind fun o2 => gd (o2.1.args.length = a1.args.length) (cond o2.2.2 ((spec_l03Gen_expr.a3 rec k o2.1).bind fun o3 => Sum.elim (fun o3l => some (.inl (o3l))) (fun o3r => gd (o3r.args.length = a1.args.length) ((spec_l01Src_n k o3r.s 7).bind fun t6 => (spec_l01Src_one k t6.2 8).bind fun t7 => cond t7.1 ((spec_l01Src_l02Num k t7.2).bind fun t8 => (spec_l03Gen_put ((⟨t8.2, o3r.args, o3r.locals, o3r.code, o3r.most⟩ : Gl03Gen)) 1 t8.1).bind fun t9 => gd (t9.2.args.length = a1.args.length) (some (.inl (t9.2)))) ((spec_l03Gen_put ((⟨t7.2, o3r.args, o3r.locals, o3r.code, o3r.most⟩ : Gl03Gen)) 1 ((IntKind.i64.wrap (t6.1 - 1)))).bind fun t10 => gd (t10.2.args.length = a1.args.length) (some (.inl (t10.2)))))) o3) (some (.inr (o2.1, o2.2.1))))
def spec_l03Gen_expr.l4 (rec : Gl03Gen → Int → Option (Gl03Gen)) : Nat → Gl03Gen → Int → Int → Int → Option (Gl03Gen × Int)
  | 0, _, _, _, _ => none
  | k + 1, a1, a2, a3, a4 => cond ((decide (a4 > 0))) ((rec a1 ((IntKind.i64.wrap (a2 - 2)))).bind fun t21 => gd (t21.args.length = a1.args.length) (spec_l03Gen_expr.l4 rec k t21 a2 a3 ((IntKind.i64.wrap (a4 - 1))))) (some (a1, a3))
def spec_l03Gen_expr : Nat → Gl03Gen → Int → Option (Gl03Gen)
  | 0, _, _ => none
  | k + 1, p0, p1 => (spec_l03Gen_expr.a1 (spec_l03Gen_expr k) k p0 p1).bind fun o1 => Sum.elim (fun o1l => gd (o1l.args.length = p0.args.length) (some o1l)) (fun o1r => gd (o1r.1.args.length = p0.args.length) ((spec_l01Src_n k o1r.1.s 10).bind fun t11 => cond ((t11.1 == 0)) (((spec_l03Gen_expr k) ((⟨t11.2, o1r.1.args, o1r.1.locals, o1r.1.code, o1r.1.most⟩ : Gl03Gen)) ((IntKind.i64.wrap (o1r.2 - 1)))).bind fun t12 => gd (t12.args.length = p0.args.length) ((spec_l01Src_n k t12.s 6).bind fun t13 => (spec_l03Gen_put ((⟨t13.2, t12.args, t12.locals, t12.code, t12.most⟩ : Gl03Gen)) ((IntKind.i64.wrap (24 + t13.1))) 0).bind fun t14 => gd (t14.2.args.length = p0.args.length) (some t14.2))) (cond ((t11.1 == 1)) (((spec_l03Gen_expr k) ((⟨t11.2, o1r.1.args, o1r.1.locals, o1r.1.code, o1r.1.most⟩ : Gl03Gen)) ((IntKind.i64.wrap (o1r.2 - 1)))).bind fun t15 => gd (t15.args.length = p0.args.length) ((spec_l03Gen_put t15 4 0).bind fun t16 => gd (t16.2.args.length = p0.args.length) ((spec_l01Src_n k t16.2.s 14).bind fun t17 => (spec_l03Gen_put ((⟨t17.2, t16.2.args, t16.2.locals, t16.2.code, t16.2.most⟩ : Gl03Gen)) ((IntKind.i64.wrap (10 + t17.1))) 0).bind fun t18 => gd (t18.2.args.length = p0.args.length) (some t18.2)))) (cond ((t11.1 == 2)) ((spec_l01Src_n k t11.2 ((p0.args.length : Int))).bind fun t19 => (idx o1r.1.args t19.1).bind fun m20 => (spec_l03Gen_expr.l4 (spec_l03Gen_expr k) k ((⟨t19.2, o1r.1.args, o1r.1.locals, o1r.1.code, o1r.1.most⟩ : Gl03Gen)) o1r.2 t19.1 m20).bind fun o4 => gd (o4.1.args.length = p0.args.length) ((spec_l03Gen_put o4.1 32 o4.2).bind fun t22 => gd (t22.2.args.length = p0.args.length) (some t22.2))) (cond ((t11.1 == 3)) (cond ((decide (o1r.1.locals > 0))) ((spec_l03Gen_local k ((⟨t11.2, o1r.1.args, o1r.1.locals, o1r.1.code, o1r.1.most⟩ : Gl03Gen))).bind fun t23 => gd (t23.2.args.length = p0.args.length) ((spec_l03Gen_put t23.2 2 t23.1).bind fun t24 => gd (t24.2.args.length = p0.args.length) (((spec_l03Gen_expr k) t24.2 ((IntKind.i64.wrap (o1r.2 - 2)))).bind fun t25 => gd (t25.args.length = p0.args.length) ((spec_l03Gen_put t25 35 0).bind fun t26 => gd (t26.2.args.length = p0.args.length) (some t26.2))))) (((spec_l03Gen_expr k) ((⟨t11.2, o1r.1.args, o1r.1.locals, o1r.1.code, o1r.1.most⟩ : Gl03Gen)) 0).bind fun t27 => gd (t27.args.length = p0.args.length) (some t27))) (cond ((t11.1 == 4)) ((spec_l01Src_n k t11.2 5).bind fun t28 => (spec_l03Gen_put ((⟨t28.2, o1r.1.args, o1r.1.locals, o1r.1.code, o1r.1.most⟩ : Gl03Gen)) 1 t28.1).bind fun t29 => gd (t29.2.args.length = p0.args.length) ((spec_l03Gen_put t29.2 34 0).bind fun t30 => gd (t30.2.args.length = p0.args.length) (some t30.2))) (cond ((t11.1 == 5)) (((spec_l03Gen_expr k) ((⟨t11.2, o1r.1.args, o1r.1.locals, o1r.1.code, o1r.1.most⟩ : Gl03Gen)) ((IntKind.i64.wrap (o1r.2 - 2)))).bind fun t31 => gd (t31.args.length = p0.args.length) ((spec_l03Gen_put t31 37 0).bind fun t32 => gd (t32.2.args.length = p0.args.length) (some t32.2))) (((spec_l03Gen_expr k) ((⟨t11.2, o1r.1.args, o1r.1.locals, o1r.1.code, o1r.1.most⟩ : Gl03Gen)) ((IntKind.i64.wrap (o1r.2 - 1)))).bind fun t33 => gd (t33.args.length = p0.args.length) (((spec_l03Gen_expr k) t33 ((IntKind.i64.wrap (o1r.2 - 1)))).bind fun t34 => gd (t34.args.length = p0.args.length) ((spec_l01Src_n k t34.s 14).bind fun t35 => cond ((((IntKind.i64.wrap (10 + t35.1))) == 13)) ((spec_l01Src_one k t35.2 4).bind fun t36 => cond ((!t36.1)) ((spec_l03Gen_put ((⟨t36.2, t34.args, t34.locals, t34.code, t34.most⟩ : Gl03Gen)) 11 0).bind fun t37 => gd (t37.2.args.length = p0.args.length) (some t37.2)) ((spec_l03Gen_put ((⟨t36.2, t34.args, t34.locals, t34.code, t34.most⟩ : Gl03Gen)) ((IntKind.i64.wrap (10 + t35.1))) 0).bind fun t38 => gd (t38.2.args.length = p0.args.length) (some t38.2))) (cond ((((IntKind.i64.wrap (10 + t35.1))) == 14)) ((spec_l01Src_one k t35.2 4).bind fun t39 => cond ((!t39.1)) ((spec_l03Gen_put ((⟨t39.2, t34.args, t34.locals, t34.code, t34.most⟩ : Gl03Gen)) 11 0).bind fun t40 => gd (t40.2.args.length = p0.args.length) (some t40.2)) ((spec_l03Gen_put ((⟨t39.2, t34.args, t34.locals, t34.code, t34.most⟩ : Gl03Gen)) ((IntKind.i64.wrap (10 + t35.1))) 0).bind fun t41 => gd (t41.2.args.length = p0.args.length) (some t41.2))) ((spec_l03Gen_put ((⟨t35.2, t34.args, t34.locals, t34.code, t34.most⟩ : Gl03Gen)) ((IntKind.i64.wrap (10 + t35.1))) 0).bind fun t42 => gd (t42.2.args.length = p0.args.length) (some t42.2))))))))))))) o1
theorem c_spec_l03Gen_expr {k : Nat} {p0 : Gl03Gen} {p1 : Int} {r : Gl03Gen} (h : spec_l03Gen_expr k p0 p1 = some r) : Con Try.prog 97 [.mp 0 5 0 0, V.int p1] [.o 5 [[.mp 1 4 0 0, .sl 2 1 0 p0.args.length, V.int p0.locals, .d (.row .own 2 (Rw GI2.cells p0.code)), V.int p0.most]], .o 4 [[.d (.row .bor 1 (Rw (cI .u8) p0.s.b)), V.int p0.s.at0, .d (.p (.int .u64 p0.s.mix)), V.int p0.s.size]], .o 1 (dd (Rw (cI .i64) p0.args))] (.tup []) [.o 5 [[.mp 1 4 0 0, .sl 2 1 0 p0.args.length, V.int r.locals, .d (.row .own 2 (Rw GI2.cells r.code)), V.int r.most]], .o 4 [[.d (.row .bor 1 (Rw (cI .u8) r.s.b)), V.int r.s.at0, .d (.p (.int .u64 r.s.mix)), V.int r.s.size]], .o 1 (dd (Rw (cI .i64) r.args))] := by
  induction k generalizing p0 p1 r with
  | zero => simp only [spec_l03Gen_expr] at h; cases h
  | succ kr ih =>
  refine con_of_sw Try.func97 rfl Try.call97 (by simp [Try.ntmps97]) (by simp [V.inNs, V.inN]) (by simp [C.inN, V.inNss, V.inNs, V.inN, inNss_dd]) (by simp [V.inNs, V.inN]) (by simp [C.inN, V.inNss, V.inNs, V.inN, inNss_dd]) rfl ?_
  rw [Try.ntmps97, Try.results97]
  simp only [spec_l03Gen_expr] at h
  replace h := Yes.mk h
  simp only [entryS, entryO, Nat.reduceAdd, List.length_nil, List.length_cons]
  repeat' (first
 | (with_reducible (first | refine sw_reg ?_ | refine sw_ret ?_ | refine sw_skip ?_ | refine sw_block ?_ | refine sw_exit ?_ | refine seqQ_normal ?_ | refine blockQ_normal ?_ | refine blockQ_ret ?_ | refine blockQ_this ?_ | refine blockQ_other (by decide) ?_ | refine regW_nil ?_ | refine sw_draw mixed ?_ | refine retQ_ret ?_ | refine retQ_normal ?_))
 | (with_reducible refine regD_nil ?_
    refine ⟨by kernel_rfl, ?_⟩)
 | (revert h; (first | ((with_reducible refine idx_elim ?_); intro m hm1 hm2 hm3 h; (try (simp only [Int.reduceToNat] at hm3)); (try (revert hm3; (with_reducible apply same_elim); (focus (with_reducible assumption)); rintro rfl)); (try (simp only [List.length_set, List.length_cons, List.length_nil, List.length_replicate, Nat.reduceAdd, Int.cast_ofNat_Int, Nat.zero_add, List.length_append] at hm2)); (try (simp only [*] at hm2))) | (with_reducible refine sidx_elim ?_; intro m hm1 hm3 h) | (with_reducible refine gd_elim ?_; intro hg h; try (have hg2 := hg.2; have hg := hg.1; (try (simp only [Nat.reduceLeDiff] at hg2)); (try (revert hg2; (with_reducible refine toNat_elim hg ?_); intro hg2 hg4)); try (have hg3 := hg2.2; have hg2 := hg2.1; (try (simp only [Nat.reduceLeDiff] at hg3))))) | (with_reducible refine condt_elim ?_ ?_; (focus (with_reducible assumption)); intro h) | (with_reducible refine condf_elim ?_ ?_; (focus (with_reducible assumption)); intro h)))
 | ((first | with_reducible refine seqQ_ret (K := (fun st1 n1 => Gh st1 n1 (MeetA _ 30000000 _ _))) ?_ | with_reducible refine seqQ_exit (K := (fun st1 n1 => Gh st1 n1 (MeetA _ 30000000 _ _))) ?_)
    obtain rfl := h.get
    have h := hK3
    (try (simp only [Sum.elim_inl, Sum.elim_inr] at h)))
 | ((first | with_reducible refine seqQ_ret (K := (fun st1 n1 => Gh st1 n1 (MeetA _ 20000000 _ _))) ?_ | with_reducible refine seqQ_exit (K := (fun st1 n1 => Gh st1 n1 (MeetA _ 20000000 _ _))) ?_)
    obtain rfl := h.get
    have h := hK2
    (try (simp only [Sum.elim_inl, Sum.elim_inr] at h)))
 | ((first | with_reducible refine seqQ_ret (K := (fun st1 n1 => Gh st1 n1 (NextS _ 40000000 _ _ _ _))) ?_ | with_reducible refine seqQ_exit (K := (fun st1 n1 => Gh st1 n1 (NextS _ 40000000 _ _ _ _))) ?_)
    obtain rfl := h.get
    have h := hK4
    (try (simp only [Sum.elim_inl, Sum.elim_inr] at h)))
 | ((first | with_reducible refine seqQ_ret (K := (fun st1 n1 => Gh st1 n1 (MeetA _ 10000000 _ _))) ?_ | with_reducible refine seqQ_exit (K := (fun st1 n1 => Gh st1 n1 (MeetA _ 10000000 _ _))) ?_)
    obtain rfl := h.get
    have h := hK1
    (try (simp only [Sum.elim_inl, Sum.elim_inr] at h)))
 | (with_reducible refine here_join (a := (.seq (.region 2 _ _) _)) (b := (.seq (.region 4 _ _) _)) ?_
    skip
    revert h
    with_reducible refine bind_elimY ?_
    intro o3 h hK3
    unfold spec_l03Gen_expr.a3 at h
    refine sw_join (ι := Gl03Gen) 30000000 (fun x : Gl03Gen => [(.s 0, some (.v (.mp 0 5 0 0))), (.s 4, some (.v (.mp 1 4 0 0))), (.r 0, some (.o 5 [[.mp 1 4 0 0, .sl 2 1 0 x.args.length, V.int x.locals, .d (.row .own 2 (Rw GI2.cells x.code)), V.int x.most]])), (.r 1, some (.o 4 [[.d (.row .bor 1 (Rw (cI .u8) x.s.b)), V.int x.s.at0, .d (.p (.int .u64 x.s.mix)), V.int x.s.size]])), (.r 2, some (.o 1 (dd (Rw (cI .i64) x.args))))]) (fun x => Yes (some (.inr x)) o3) ?_ ?_
    rotate_left
    rintro b1 h
    obtain rfl := h.get
    have h := hK3
    (try (simp only [Sum.elim_inl, Sum.elim_inr] at h))
    refine sw_gh ?_
    refine gh_sw ?_
    skip)
 | (with_reducible refine here_meet (N0 := 30000000) ?_
    skip
    refine meet_to (_) (by decide) ?_ h ?_
    · exact (by simp [slNL, C.inN, V.inN, V.inNs, V.inNss, inNss_dd, inNs_map_d])
    · simp only [SubL, putSt, lk, lkb, reduceCtorEq, Nat.reduceEqDiff, List.length_set, List.length_replicate]; repeat' (first | apply And.intro | rfl | trivial | (simp only [*]; done)))
 | (with_reducible refine here_join (a := (.region 1 _ _)) (b := (.cond (.tmp 22) _ _)) ?_
    skip
    revert h
    with_reducible refine bind_elimY ?_
    intro o2 h hK2
    unfold spec_l03Gen_expr.a2 at h
    refine sw_join (ι := Gl03Gen × Int × Bool) 20000000 (fun x : Gl03Gen × Int × Bool => [(.s 0, some (.v (.mp 0 5 0 0))), (.s 1, some (.v (V.int x.2.1))), (.s 4, some (.v (.mp 1 4 0 0))), (.s 22, some (.v (V.bool x.2.2))), (.r 0, some (.o 5 [[.mp 1 4 0 0, .sl 2 1 0 x.1.args.length, V.int x.1.locals, .d (.row .own 2 (Rw GI2.cells x.1.code)), V.int x.1.most]])), (.r 1, some (.o 4 [[.d (.row .bor 1 (Rw (cI .u8) x.1.s.b)), V.int x.1.s.at0, .d (.p (.int .u64 x.1.s.mix)), V.int x.1.s.size]])), (.r 2, some (.o 1 (dd (Rw (cI .i64) x.1.args))))]) (fun x => Yes (some (x)) o2) ?_ ?_
    rotate_left
    rintro ⟨b1, b2, b3⟩ h
    obtain rfl := h.get
    have h := hK2
    (try (simp only [Sum.elim_inl, Sum.elim_inr] at h))
    refine sw_gh ?_
    refine gh_sw ?_
    skip)
 | (with_reducible refine here_meet (N0 := 20000000) ?_
    skip
    refine meet_to (_, _, _) (by decide) ?_ h ?_
    · exact (by simp [slNL, C.inN, V.inN, V.inNs, V.inNss, inNss_dd, inNs_map_d])
    · simp only [SubL, putSt, lk, lkb, reduceCtorEq, Nat.reduceEqDiff, List.length_set, List.length_replicate]; repeat' (first | apply And.intro | rfl | trivial | (simp only [*]; done)))
 | (with_reducible refine here_loop (c := (.seq (.seq (.region 25 _ _) _) _)) ?_
    skip
    revert h
    with_reducible refine bind_elimY ?_
    intro o4 h hK4
    refine sw_loop (ι := Nat × Gl03Gen × Int × Int × Int) 40000000 (by decide) (fun x : Nat × Gl03Gen × Int × Int × Int => [(.s 0, some (.v (.mp 0 5 0 0))), (.s 1, some (.v (V.int x.2.2.1))), (.s 6, some (.v (V.int x.2.2.2.1))), (.s 7, some (.v (V.int x.2.2.2.2))), (.r 0, some (.o 5 [[.mp 1 4 0 0, .sl 2 1 0 x.2.1.args.length, V.int x.2.1.locals, .d (.row .own 2 (Rw GI2.cells x.2.1.code)), V.int x.2.1.most]])), (.r 1, some (.o 4 [[.d (.row .bor 1 (Rw (cI .u8) x.2.1.s.b)), V.int x.2.1.s.at0, .d (.p (.int .u64 x.2.1.s.mix)), V.int x.2.1.s.size]])), (.r 2, some (.o 1 (dd (Rw (cI .i64) x.2.1.args))))]) (fun x => x.1) (fun x => Yes (spec_l03Gen_expr.l4 (spec_l03Gen_expr kr) x.1 x.2.1 x.2.2.1 x.2.2.2.1 x.2.2.2.2) o4) (_, _, _, _, _) ?_ h ?_ ?_
    · exact (by simp [slNL, C.inN, V.inN, V.inNs, V.inNss, inNss_dd, inNs_map_d])
    · simp only [SubL, putSt, lk, lkb, reduceCtorEq, Nat.reduceEqDiff, List.length_set, List.length_replicate]; repeat' (first | apply And.intro | rfl | trivial | (simp only [*]; done))
    rintro ⟨_ | k, a1, a2, a3, a4⟩ h
    · simp only [spec_l03Gen_expr.l4] at h; exact h.none
    simp only [spec_l03Gen_expr.l4] at h
)
 | (with_reducible refine here_next (N0 := 40000000) ?_
    skip
    refine nexts_to (_, _, _, _, _) (by decide) ?_ (Nat.lt_succ_self _) h ?_
    · exact (by simp [slNL, C.inN, V.inN, V.inNs, V.inNss, inNss_dd, inNs_map_d])
    · simp only [SubL, putSt, lk, lkb, reduceCtorEq, Nat.reduceEqDiff, List.length_set, List.length_replicate]; repeat' (first | apply And.intro | rfl | trivial | (simp only [*]; done)))
 | (with_reducible refine here_join (a := (.seq (.region 1 _ _) _)) (b := (.seq (.region 8 _ _) _)) ?_
    skip
    revert h
    with_reducible refine bind_elimY ?_
    intro o1 h hK1
    unfold spec_l03Gen_expr.a1 at h
    refine sw_join (ι := Gl03Gen × Int) 10000000 (fun x : Gl03Gen × Int => [(.s 0, some (.v (.mp 0 5 0 0))), (.s 1, some (.v (V.int x.2))), (.s 4, some (.v (.mp 1 4 0 0))), (.r 0, some (.o 5 [[.mp 1 4 0 0, .sl 2 1 0 x.1.args.length, V.int x.1.locals, .d (.row .own 2 (Rw GI2.cells x.1.code)), V.int x.1.most]])), (.r 1, some (.o 4 [[.d (.row .bor 1 (Rw (cI .u8) x.1.s.b)), V.int x.1.s.at0, .d (.p (.int .u64 x.1.s.mix)), V.int x.1.s.size]])), (.r 2, some (.o 1 (dd (Rw (cI .i64) x.1.args))))]) (fun x => Yes (some (.inr x)) o1) ?_ ?_
    rotate_left
    rintro ⟨b1, b2⟩ h
    obtain rfl := h.get
    have h := hK1
    (try (simp only [Sum.elim_inl, Sum.elim_inr] at h))
    refine sw_gh ?_
    refine gh_sw ?_
    skip)
 | (with_reducible refine here_meet (N0 := 10000000) ?_
    skip
    refine meet_to (_, _) (by decide) ?_ h ?_
    · exact (by simp [slNL, C.inN, V.inN, V.inNs, V.inNss, inNss_dd, inNs_map_d])
    · simp only [SubL, putSt, lk, lkb, reduceCtorEq, Nat.reduceEqDiff, List.length_set, List.length_replicate]; repeat' (first | apply And.intro | rfl | trivial | (simp only [*]; done)))
 | with_reducible refine sw_seq ?_
 | with_reducible refine seqQ_ret ?_
 | with_reducible refine seqQ_exit ?_
 | ((with_reducible refine wp_ite ?_ ?_)
    all_goals (intro hc; (try (simp only [Bool.not_eq_true, Bool.not_eq_false] at hc)); simp only [hc]))
 | (with_reducible apply regW_skip
    · simp only [dstOk, Nat.reduceLT]
    · rfl
    · simp only [putSt, lk, lkb, reduceCtorEq, Nat.reduceEqDiff]; done)
 | (with_reducible apply regW_yesN
    · simp only [dstOk, Nat.reduceLT]
    · rfl
    · simp only [putSt, lk, lkb, reduceCtorEq, Nat.reduceEqDiff]; done)
 | (with_reducible apply regW_no
    · simp only [dstOk, Nat.reduceLT]
    · rfl
    · simp only [putSt, lk, lkb, reduceCtorEq, Nat.reduceEqDiff, Bool.not_true, Bool.not_false]; done)
 | (with_reducible apply regW_guardN
    · simp only [dstOk, Nat.reduceLT]
    · rfl
    · simp only [putSt, lk, lkb, reduceCtorEq, Nat.reduceEqDiff]; rfl
    all_goals (intro hc; (try (simp only [Bool.not_true, Bool.not_false] at hc))))
 | (with_reducible apply sw_cond
    · simp only [putSt, lk, lkb, reduceCtorEq, Nat.reduceEqDiff]; rfl
    all_goals (intro hc; try (cases hc; done)))
 | ((first
     | ((with_reducible refine gh_ret ?_)
        revert h
        with_reducible refine some_elim ?_
        rintro rfl)
     | (with_reducible refine here_call ?_
        revert h
        with_reducible refine bind_elim ?_
        intro t ht h
        (first
          | (refine call_obj [1] (c_spec_l01Src_one ht) (by decide) ?_ ?_
             · first | exact .inl rfl | (refine .inr ⟨?_, ?_⟩; (focus (first | rfl | (simp only [V.nb, V.nbL, D.nb, D.nbL, Md.nb, nbb, GI2_nb, Gl01Src_nb, LcIi64_nb]; done))); (focus (simp [C.nb, V.nbLL, V.nbL, V.nb, D.nb]; done)))
             simp only [argsP, argP, V.namesOf, V.namesOfL, List.mem_append, List.append_nil, List.mem_cons, or_false, or_true, true_or, objsP, C.ren, V.ren, V.renL, renLL_dd, V.renLL, List.getD_cons_zero, List.getD_cons_succ, C.o.injEq, hyb, lendAL, lendA, undd.unddR, D.lendL, D.lend, Md.lend, GI2_lend, Gl01Src_lend, LcIi64_lend, putSt, lk, lkb, reduceCtorEq, Nat.reduceEqDiff, Prog.wp, Prog.wp_bind, Prog.bind, Prog.ofO, List.take_of_length_le, *])
          | (refine call_obj [1] (c_spec_l01Src_n ht) (by decide) ?_ ?_
             · first | exact .inl rfl | (refine .inr ⟨?_, ?_⟩; (focus (first | rfl | (simp only [V.nb, V.nbL, D.nb, D.nbL, Md.nb, nbb, GI2_nb, Gl01Src_nb, LcIi64_nb]; done))); (focus (simp [C.nb, V.nbLL, V.nbL, V.nb, D.nb]; done)))
             simp only [argsP, argP, V.namesOf, V.namesOfL, List.mem_append, List.append_nil, List.mem_cons, or_false, or_true, true_or, objsP, C.ren, V.ren, V.renL, renLL_dd, V.renLL, List.getD_cons_zero, List.getD_cons_succ, C.o.injEq, hyb, lendAL, lendA, undd.unddR, D.lendL, D.lend, Md.lend, GI2_lend, Gl01Src_lend, LcIi64_lend, putSt, lk, lkb, reduceCtorEq, Nat.reduceEqDiff, Prog.wp, Prog.wp_bind, Prog.bind, Prog.ofO, List.take_of_length_le, *])
          | (refine call_obj [0, 1, 2] (ih ht) (by decide) ?_ ?_
             · first | exact .inl rfl | (refine .inr ⟨?_, ?_⟩; (focus (first | rfl | (simp only [V.nb, V.nbL, D.nb, D.nbL, Md.nb, nbb, GI2_nb, Gl01Src_nb, LcIi64_nb]; done))); (focus (simp [C.nb, V.nbLL, V.nbL, V.nb, D.nb]; done)))
             simp only [argsP, argP, V.namesOf, V.namesOfL, List.mem_append, List.append_nil, List.mem_cons, or_false, or_true, true_or, objsP, C.ren, V.ren, V.renL, renLL_dd, V.renLL, List.getD_cons_zero, List.getD_cons_succ, C.o.injEq, hyb, lendAL, lendA, undd.unddR, D.lendL, D.lend, Md.lend, GI2_lend, Gl01Src_lend, LcIi64_lend, putSt, lk, lkb, reduceCtorEq, Nat.reduceEqDiff, Prog.wp, Prog.wp_bind, Prog.bind, Prog.ofO, List.take_of_length_le, *])
          | (refine call_obj [0, 1, 2] (c_spec_l03Gen_put ht) (by decide) ?_ ?_
             · first | exact .inl rfl | (refine .inr ⟨?_, ?_⟩; (focus (first | rfl | (simp only [V.nb, V.nbL, D.nb, D.nbL, Md.nb, nbb, GI2_nb, Gl01Src_nb, LcIi64_nb]; done))); (focus (simp [C.nb, V.nbLL, V.nbL, V.nb, D.nb]; done)))
             simp only [argsP, argP, V.namesOf, V.namesOfL, List.mem_append, List.append_nil, List.mem_cons, or_false, or_true, true_or, objsP, C.ren, V.ren, V.renL, renLL_dd, V.renLL, List.getD_cons_zero, List.getD_cons_succ, C.o.injEq, hyb, lendAL, lendA, undd.unddR, D.lendL, D.lend, Md.lend, GI2_lend, Gl01Src_lend, LcIi64_lend, putSt, lk, lkb, reduceCtorEq, Nat.reduceEqDiff, Prog.wp, Prog.wp_bind, Prog.bind, Prog.ofO, List.take_of_length_le, *])
          | (refine call_obj [0, 1, 2] (c_spec_l03Gen_full ht) (by decide) ?_ ?_
             · first | exact .inl rfl | (refine .inr ⟨?_, ?_⟩; (focus (first | rfl | (simp only [V.nb, V.nbL, D.nb, D.nbL, Md.nb, nbb, GI2_nb, Gl01Src_nb, LcIi64_nb]; done))); (focus (simp [C.nb, V.nbLL, V.nbL, V.nb, D.nb]; done)))
             simp only [argsP, argP, V.namesOf, V.namesOfL, List.mem_append, List.append_nil, List.mem_cons, or_false, or_true, true_or, objsP, C.ren, V.ren, V.renL, renLL_dd, V.renLL, List.getD_cons_zero, List.getD_cons_succ, C.o.injEq, hyb, lendAL, lendA, undd.unddR, D.lendL, D.lend, Md.lend, GI2_lend, Gl01Src_lend, LcIi64_lend, putSt, lk, lkb, reduceCtorEq, Nat.reduceEqDiff, Prog.wp, Prog.wp_bind, Prog.bind, Prog.ofO, List.take_of_length_le, *])
          | (refine call_obj [0, 1, 2] (c_spec_l03Gen_local ht) (by decide) ?_ ?_
             · first | exact .inl rfl | (refine .inr ⟨?_, ?_⟩; (focus (first | rfl | (simp only [V.nb, V.nbL, D.nb, D.nbL, Md.nb, nbb, GI2_nb, Gl01Src_nb, LcIi64_nb]; done))); (focus (simp [C.nb, V.nbLL, V.nbL, V.nb, D.nb]; done)))
             simp only [argsP, argP, V.namesOf, V.namesOfL, List.mem_append, List.append_nil, List.mem_cons, or_false, or_true, true_or, objsP, C.ren, V.ren, V.renL, renLL_dd, V.renLL, List.getD_cons_zero, List.getD_cons_succ, C.o.injEq, hyb, lendAL, lendA, undd.unddR, D.lendL, D.lend, Md.lend, GI2_lend, Gl01Src_lend, LcIi64_lend, putSt, lk, lkb, reduceCtorEq, Nat.reduceEqDiff, Prog.wp, Prog.wp_bind, Prog.bind, Prog.ofO, List.take_of_length_le, *])
          | (refine call_obj [1] (c_spec_l01Src_l02Num ht) (by decide) ?_ ?_
             · first | exact .inl rfl | (refine .inr ⟨?_, ?_⟩; (focus (first | rfl | (simp only [V.nb, V.nbL, D.nb, D.nbL, Md.nb, nbb, GI2_nb, Gl01Src_nb, LcIi64_nb]; done))); (focus (simp [C.nb, V.nbLL, V.nbL, V.nb, D.nb]; done)))
             simp only [argsP, argP, V.namesOf, V.namesOfL, List.mem_append, List.append_nil, List.mem_cons, or_false, or_true, true_or, objsP, C.ren, V.ren, V.renL, renLL_dd, V.renLL, List.getD_cons_zero, List.getD_cons_succ, C.o.injEq, hyb, lendAL, lendA, undd.unddR, D.lendL, D.lend, Md.lend, GI2_lend, Gl01Src_lend, LcIi64_lend, putSt, lk, lkb, reduceCtorEq, Nat.reduceEqDiff, Prog.wp, Prog.wp_bind, Prog.bind, Prog.ofO, List.take_of_length_le, *])))
     | (with_reducible apply regD_opK
        · simp only [dstOk, Nat.reduceLT]
        · simp only [Nat.reduceAdd]; rfl
        intro k hk)
     | (with_reducible apply regW_opK
        · simp only [dstOk, Nat.reduceLT]
        · simp only [Nat.reduceAdd]; rfl
        intro k hk)
     | skip)
    simp only [RetW, bn, lkb, evb, opC, opP, fetchN, fetchP, fetchAll, fetchO, Prog.bind, Prog.wp, Prog.wp_bind, lk, nameP, nameAll, Value.oneCell', putSt, stepP, putP, reduceCtorEq, V.lin, V.linL, D.lin, isNil, binP, unP, BinOp.isShift, Prog.ofO, Nat.reduceAdd, Nat.reduceMul, Nat.reduceSub, Nat.reduceLT, Nat.reduceLeDiff, Nat.reduceEqDiff, ite_true, ite_false, fieldAddrP, fieldP, indexAddrP, loadP, storeP, boxP, allocP, cellsP, asVal, setSeg, outP, outT, cntT, TyK.field, TyK.agg, zeroRow, V.ren, V.renL, forall_eq_or_imp, forall_const, minmaxP, lenP, lenOf, lenStr, V.asInt, decide_true, decide_false, sliceP, boundP, makeSliceP, convertP, appendP, rowsOfP, ontoP, sizeFits, V.rowSize, TyK.src, resV, resV.go, resV.gol, retP, retOne, retAll, resTo, objsAre, Option.map_eq_map, Function.const_apply, Int.reduceNeg, Int.reduceToNat, ty2, ty3, ty4, ty5, ty26, ty37, ty41, ty63, ty107, ty113, ty139, ty140, ty143, GI2.cells, Gl01Src.cells, cI, cB, cS, cL, GI2_e, Gl01Src_e, LcIi64_e, nilEqP, ne_eq, not_false_eq_true, not_true_eq_false, *]
    try (refine hk.use _ _ _ _ ?_; clear hk k))
 | fail)
  all_goals (try rfl)
  all_goals (try (simp; done))
  all_goals (try (simp_all; done))
def spec_l03Gen_here (p0 : Gl03Gen) (p1 : Int) : Option (Gl03Gen) :=
  (idx p0.code p1).bind fun m1 => some ((⟨p0.s, p0.args, p0.locals, (p0.code.set p1.toNat ((⟨m1.a, (p0.code.length : Int)⟩ : GI2))), p0.most⟩ : Gl03Gen))
theorem c_spec_l03Gen_here {p0 : Gl03Gen} {p1 : Int} {r : Gl03Gen} (h : spec_l03Gen_here p0 p1 = some r) : Con Try.prog 114 [.mp 0 5 0 0, V.int p1] [.o 5 [[.mp 1 4 0 0, .sl 2 1 0 p0.args.length, V.int p0.locals, .d (.row .own 2 (Rw GI2.cells p0.code)), V.int p0.most]], .o 4 [[.d (.row .bor 1 (Rw (cI .u8) p0.s.b)), V.int p0.s.at0, .d (.p (.int .u64 p0.s.mix)), V.int p0.s.size]], .o 1 (dd (Rw (cI .i64) p0.args))] (.tup []) [.o 5 [[.mp 1 4 0 0, .sl 2 1 0 p0.args.length, V.int r.locals, .d (.row .own 2 (Rw GI2.cells r.code)), V.int r.most]], .o 4 [[.d (.row .bor 1 (Rw (cI .u8) r.s.b)), V.int r.s.at0, .d (.p (.int .u64 r.s.mix)), V.int r.s.size]], .o 1 (dd (Rw (cI .i64) r.args))] := by
  refine con_of_sw Try.func114 rfl Try.call114 (by simp [Try.ntmps114]) (by simp [V.inNs, V.inN]) (by simp [C.inN, V.inNss, V.inNs, V.inN, inNss_dd]) (by simp [V.inNs, V.inN]) (by simp [C.inN, V.inNss, V.inNs, V.inN, inNss_dd]) rfl ?_
  rw [Try.ntmps114, Try.results114]
  unfold spec_l03Gen_here at h
  replace h := Yes.mk h
  simp only [entryS, entryO, Nat.reduceAdd, List.length_nil, List.length_cons]
  repeat' (first
 | (with_reducible refine here_reg (i := 0) ?_
    refine sw_gh ?_
    with_reducible apply gh_nameCell 0 3
    · simp only [putSt, lk, lkb, reduceCtorEq, Nat.reduceEqDiff]; rfl
    · rfl
    simp only [List.set_cons_zero, List.set_cons_succ, Nat.reduceAdd, Rw_length]
    refine gh_sw ?_)
 | (with_reducible (first | refine sw_reg ?_ | refine sw_ret ?_ | refine sw_skip ?_ | refine sw_block ?_ | refine sw_exit ?_ | refine seqQ_normal ?_ | refine blockQ_normal ?_ | refine blockQ_ret ?_ | refine blockQ_this ?_ | refine blockQ_other (by decide) ?_ | refine regW_nil ?_ | refine sw_draw mixed ?_ | refine retQ_ret ?_ | refine retQ_normal ?_))
 | (with_reducible refine regD_nil ?_
    refine ⟨by kernel_rfl, ?_⟩)
 | (revert h; (first | ((with_reducible refine idx_elim ?_); intro m hm1 hm2 hm3 h; (try (simp only [Int.reduceToNat] at hm3)); (try (revert hm3; (with_reducible apply same_elim); (focus (with_reducible assumption)); rintro rfl)); (try (simp only [List.length_set, List.length_cons, List.length_nil, List.length_replicate, Nat.reduceAdd, Int.cast_ofNat_Int, Nat.zero_add, List.length_append] at hm2))) | (with_reducible refine sidx_elim ?_; intro m hm1 hm3 h) | (with_reducible refine gd_elim ?_; intro hg h; try (have hg2 := hg.2; have hg := hg.1; (try (simp only [Nat.reduceLeDiff] at hg2)); (try (revert hg2; (with_reducible refine toNat_elim hg ?_); intro hg2 hg4)); try (have hg3 := hg2.2; have hg2 := hg2.1; (try (simp only [Nat.reduceLeDiff] at hg3))))) | (with_reducible refine condt_elim ?_ ?_; (focus (with_reducible assumption)); intro h) | (with_reducible refine condf_elim ?_ ?_; (focus (with_reducible assumption)); intro h)))
 | with_reducible refine sw_seq ?_
 | with_reducible refine seqQ_ret ?_
 | with_reducible refine seqQ_exit ?_
 | (with_reducible refine here_retw ?_
    with_reducible apply gh_resSl 0 3
    · simp only [putSt, lk, lkb, reduceCtorEq, Nat.reduceEqDiff]; rfl
    · rfl
    simp only [rxb, Nat.reduceAdd, Nat.reduceLeDiff, resSlotP, nameSlotP, Prog.wp, Prog.wp_bind, Prog.bind, Prog.ofO, putSt, lk, lkb, reduceCtorEq, Nat.reduceEqDiff, resV, resV.go, resV.gol, nameAll, nameP, outP, outT, cntT, V.lin, D.lin, *])
 | ((with_reducible refine wp_ite ?_ ?_)
    all_goals (intro hc; (try (simp only [Bool.not_eq_true, Bool.not_eq_false] at hc)); simp only [hc]))
 | (with_reducible apply regW_skip
    · simp only [dstOk, Nat.reduceLT]
    · rfl
    · simp only [putSt, lk, lkb, reduceCtorEq, Nat.reduceEqDiff]; done)
 | (with_reducible apply regW_yesN
    · simp only [dstOk, Nat.reduceLT]
    · rfl
    · simp only [putSt, lk, lkb, reduceCtorEq, Nat.reduceEqDiff]; done)
 | (with_reducible apply regW_no
    · simp only [dstOk, Nat.reduceLT]
    · rfl
    · simp only [putSt, lk, lkb, reduceCtorEq, Nat.reduceEqDiff, Bool.not_true, Bool.not_false]; done)
 | (with_reducible apply regW_guardN
    · simp only [dstOk, Nat.reduceLT]
    · rfl
    · simp only [putSt, lk, lkb, reduceCtorEq, Nat.reduceEqDiff]; rfl
    all_goals (intro hc; (try (simp only [Bool.not_true, Bool.not_false] at hc))))
 | (with_reducible apply sw_cond
    · simp only [putSt, lk, lkb, reduceCtorEq, Nat.reduceEqDiff]; rfl
    all_goals (intro hc; try (cases hc; done)))
 | ((first
     | ((with_reducible refine gh_ret ?_)
        revert h
        with_reducible refine some_elim ?_
        rintro rfl)
     | (with_reducible apply regD_opK
        · simp only [dstOk, Nat.reduceLT]
        · simp only [Nat.reduceAdd]; rfl
        intro k hk)
     | (with_reducible apply regW_opK
        · simp only [dstOk, Nat.reduceLT]
        · simp only [Nat.reduceAdd]; rfl
        intro k hk)
     | skip)
    simp only [RetW, bn, lkb, evb, opC, opP, fetchN, fetchP, fetchAll, fetchO, Prog.bind, Prog.wp, Prog.wp_bind, lk, nameP, nameAll, Value.oneCell', putSt, stepP, putP, reduceCtorEq, V.lin, V.linL, D.lin, isNil, binP, unP, BinOp.isShift, Prog.ofO, Nat.reduceAdd, Nat.reduceMul, Nat.reduceSub, Nat.reduceLT, Nat.reduceLeDiff, Nat.reduceEqDiff, ite_true, ite_false, fieldAddrP, fieldP, indexAddrP, loadP, storeP, boxP, allocP, cellsP, asVal, setSeg, outP, outT, cntT, TyK.field, TyK.agg, zeroRow, V.ren, V.renL, forall_eq_or_imp, forall_const, minmaxP, lenP, lenOf, lenStr, V.asInt, decide_true, decide_false, sliceP, boundP, makeSliceP, convertP, appendP, rowsOfP, ontoP, sizeFits, V.rowSize, TyK.src, resV, resV.go, resV.gol, retP, retOne, retAll, resTo, objsAre, Option.map_eq_map, Function.const_apply, Int.reduceNeg, Int.reduceToNat, ty2, ty3, ty5, ty26, ty37, ty41, ty63, ty107, ty113, ty139, ty140, ty143, GI2.cells, Gl01Src.cells, cI, cB, cS, cL, GI2_e, Gl01Src_e, LcIi64_e, nilEqP, ne_eq, not_false_eq_true, not_true_eq_false, *]
    try (refine hk.use _ _ _ _ ?_; clear hk k))
 | fail)
  all_goals (try rfl)
  all_goals (try (simp; done))
  all_goals (try (simp_all; done))
def spec_l03Gen_stmt.a1 (rec : Gl03Gen → Int → Option (Gl03Gen)) (k : Nat) (a1 : Gl03Gen) (a2 : Int) (a3 : Int) : Option (Gl03Gen × Int × Int × Bool) :=
  cond ((a3 == 2)) (some (a1, a2, a3, true)) (some (a1, a2, a3, (a3 == 3)))
def spec_l03Gen_stmt.a2 (rec : Gl03Gen → Int → Option (Gl03Gen)) (k : Nat) (a1 : Gl03Gen) (a2 : Int) : Option (Gl03Gen × Int × Bool) :=
  cond ((decide (a2 > 0))) (some (a1, a2, (decide (a1.locals > 0)))) (some (a1, a2, false))
def spec_l03Gen_stmt : Nat → Gl03Gen → Int → Option (Gl03Gen)
  | 0, _, _ => none
  | k + 1, p0, p1 => (spec_l03Gen_full p0).bind fun t1 => gd (t1.2.args.length = p0.args.length) (cond t1.1 (some t1.2) ((spec_l01Src_n k t1.2.s 8).bind fun t2 => cond ((t2.1 == 0)) ((spec_l03Gen_expr k ((⟨t2.2, t1.2.args, t1.2.locals, t1.2.code, t1.2.most⟩ : Gl03Gen)) 2).bind fun t3 => gd (t3.args.length = p0.args.length) ((spec_l03Gen_put t3 38 0).bind fun t4 => gd (t4.2.args.length = p0.args.length) (some t4.2))) (cond ((t2.1 == 1)) (cond ((decide (p1 > 0))) ((spec_l03Gen_expr k ((⟨t2.2, t1.2.args, t1.2.locals, t1.2.code, t1.2.most⟩ : Gl03Gen)) 2).bind fun t5 => gd (t5.args.length = p0.args.length) ((spec_l03Gen_put t5 31 0).bind fun t6 => gd (t6.2.args.length = p0.args.length) (((spec_l03Gen_stmt k) t6.2 ((IntKind.i64.wrap (p1 - 1)))).bind fun t7 => gd (t7.args.length = p0.args.length) ((spec_l03Gen_put t7 30 0).bind fun t8 => gd (t8.2.args.length = p0.args.length) ((spec_l03Gen_here t8.2 t6.1).bind fun t9 => gd (t9.args.length = p0.args.length) (((spec_l03Gen_stmt k) t9 ((IntKind.i64.wrap (p1 - 1)))).bind fun t10 => gd (t10.args.length = p0.args.length) ((spec_l03Gen_here t10 t8.1).bind fun t11 => gd (t11.args.length = p0.args.length) (some t11)))))))) (some ((⟨t2.2, t1.2.args, t1.2.locals, t1.2.code, t1.2.most⟩ : Gl03Gen)))) ((spec_l03Gen_stmt.a1 (spec_l03Gen_stmt k) k ((⟨t2.2, t1.2.args, t1.2.locals, t1.2.code, t1.2.most⟩ : Gl03Gen)) p1 t2.1).bind fun o1 => gd (o1.1.args.length = p0.args.length) (cond o1.2.2.2 ((spec_l03Gen_stmt.a2 (spec_l03Gen_stmt k) k o1.1 o1.2.1).bind fun o2 => gd (o2.1.args.length = p0.args.length) (cond o2.2.2 ((spec_l03Gen_local k o2.1).bind fun t12 => gd (t12.2.args.length = p0.args.length) ((spec_l01Src_n k t12.2.s 6).bind fun t13 => (spec_l03Gen_put ((⟨t13.2, t12.2.args, t12.2.locals, t12.2.code, t12.2.most⟩ : Gl03Gen)) 1 ((IntKind.i64.wrap (1 + t13.1)))).bind fun t14 => gd (t14.2.args.length = p0.args.length) ((spec_l03Gen_put t14.2 3 t12.1).bind fun t15 => gd (t15.2.args.length = p0.args.length) ((spec_l03Gen_put t15.2 2 t12.1).bind fun t16 => gd (t16.2.args.length = p0.args.length) ((spec_l03Gen_put t16.2 31 0).bind fun t17 => gd (t17.2.args.length = p0.args.length) (((spec_l03Gen_stmt k) t17.2 ((IntKind.i64.wrap (o2.2.1 - 1)))).bind fun t18 => gd (t18.args.length = p0.args.length) ((spec_l03Gen_put t18 2 t12.1).bind fun t19 => gd (t19.2.args.length = p0.args.length) ((spec_l03Gen_put t19.2 1 1).bind fun t20 => gd (t20.2.args.length = p0.args.length) ((spec_l03Gen_put t20.2 11 0).bind fun t21 => gd (t21.2.args.length = p0.args.length) ((spec_l03Gen_put t21.2 3 t12.1).bind fun t22 => gd (t22.2.args.length = p0.args.length) ((spec_l03Gen_put t22.2 30 t16.1).bind fun t23 => gd (t23.2.args.length = p0.args.length) ((spec_l03Gen_here t23.2 t17.1).bind fun t24 => gd (t24.args.length = p0.args.length) (some t24))))))))))))) (some o2.1))) (cond ((o1.2.2.1 == 4)) (cond ((decide (o1.1.locals > 0))) ((spec_l03Gen_local k o1.1).bind fun t25 => gd (t25.2.args.length = p0.args.length) ((spec_l01Src_n k t25.2.s 6).bind fun t26 => (spec_l03Gen_put ((⟨t26.2, t25.2.args, t25.2.locals, t25.2.code, t25.2.most⟩ : Gl03Gen)) 1 ((IntKind.i64.wrap (1 + t26.1)))).bind fun t27 => gd (t27.2.args.length = p0.args.length) ((spec_l03Gen_put t27.2 34 0).bind fun t28 => gd (t28.2.args.length = p0.args.length) ((spec_l03Gen_put t28.2 3 t25.1).bind fun t29 => gd (t29.2.args.length = p0.args.length) ((spec_l03Gen_put t29.2 2 t25.1).bind fun t30 => gd (t30.2.args.length = p0.args.length) ((spec_l01Src_n k t30.2.s 4).bind fun t31 => (spec_l03Gen_put ((⟨t31.2, t30.2.args, t30.2.locals, t30.2.code, t30.2.most⟩ : Gl03Gen)) 1 t31.1).bind fun t32 => gd (t32.2.args.length = p0.args.length) ((spec_l03Gen_expr k t32.2 1).bind fun t33 => gd (t33.args.length = p0.args.length) ((spec_l03Gen_put t33 36 0).bind fun t34 => gd (t34.2.args.length = p0.args.length) (some t34.2))))))))) (some o1.1)) (cond ((o1.2.2.1 == 5)) ((spec_l03Gen_expr k o1.1 3).bind fun t35 => gd (t35.args.length = p0.args.length) ((spec_l03Gen_put t35 5 0).bind fun t36 => gd (t36.2.args.length = p0.args.length) (some t36.2))) ((spec_l03Gen_expr k o1.1 3).bind fun t37 => gd (t37.args.length = p0.args.length) (cond ((decide (t37.locals > 0))) ((spec_l03Gen_local k t37).bind fun t38 => gd (t38.2.args.length = p0.args.length) ((spec_l03Gen_put t38.2 3 t38.1).bind fun t39 => gd (t39.2.args.length = p0.args.length) (some t39.2))) ((spec_l03Gen_put t37 5 0).bind fun t40 => gd (t40.2.args.length = p0.args.length) (some t40.2)))))))))))
theorem c_spec_l03Gen_stmt {k : Nat} {p0 : Gl03Gen} {p1 : Int} {r : Gl03Gen} (h : spec_l03Gen_stmt k p0 p1 = some r) : Con Try.prog 96 [.mp 0 5 0 0, V.int p1] [.o 5 [[.mp 1 4 0 0, .sl 2 1 0 p0.args.length, V.int p0.locals, .d (.row .own 2 (Rw GI2.cells p0.code)), V.int p0.most]], .o 4 [[.d (.row .bor 1 (Rw (cI .u8) p0.s.b)), V.int p0.s.at0, .d (.p (.int .u64 p0.s.mix)), V.int p0.s.size]], .o 1 (dd (Rw (cI .i64) p0.args))] (.tup []) [.o 5 [[.mp 1 4 0 0, .sl 2 1 0 p0.args.length, V.int r.locals, .d (.row .own 2 (Rw GI2.cells r.code)), V.int r.most]], .o 4 [[.d (.row .bor 1 (Rw (cI .u8) r.s.b)), V.int r.s.at0, .d (.p (.int .u64 r.s.mix)), V.int r.s.size]], .o 1 (dd (Rw (cI .i64) r.args))] := by
  induction k generalizing p0 p1 r with
  | zero => simp only [spec_l03Gen_stmt] at h; cases h
  | succ kr ih =>
  refine con_of_sw Try.func96 rfl Try.call96 (by simp [Try.ntmps96]) (by simp [V.inNs, V.inN]) (by simp [C.inN, V.inNss, V.inNs, V.inN, inNss_dd]) (by simp [V.inNs, V.inN]) (by simp [C.inN, V.inNss, V.inNs, V.inN, inNss_dd]) rfl ?_
  rw [Try.ntmps96, Try.results96]
  simp only [spec_l03Gen_stmt] at h
  replace h := Yes.mk h
  simp only [entryS, entryO, Nat.reduceAdd, List.length_nil, List.length_cons]
  repeat' (first
 | (with_reducible (first | refine sw_reg ?_ | refine sw_ret ?_ | refine sw_skip ?_ | refine sw_block ?_ | refine sw_exit ?_ | refine seqQ_normal ?_ | refine blockQ_normal ?_ | refine blockQ_ret ?_ | refine blockQ_this ?_ | refine blockQ_other (by decide) ?_ | refine regW_nil ?_ | refine sw_draw mixed ?_ | refine retQ_ret ?_ | refine retQ_normal ?_))
 | (with_reducible refine regD_nil ?_
    refine ⟨by kernel_rfl, ?_⟩)
 | (revert h; (first | ((with_reducible refine idx_elim ?_); intro m hm1 hm2 hm3 h; (try (simp only [Int.reduceToNat] at hm3)); (try (revert hm3; (with_reducible apply same_elim); (focus (with_reducible assumption)); rintro rfl)); (try (simp only [List.length_set, List.length_cons, List.length_nil, List.length_replicate, Nat.reduceAdd, Int.cast_ofNat_Int, Nat.zero_add, List.length_append] at hm2)); (try (simp only [*] at hm2))) | (with_reducible refine sidx_elim ?_; intro m hm1 hm3 h) | (with_reducible refine gd_elim ?_; intro hg h; try (have hg2 := hg.2; have hg := hg.1; (try (simp only [Nat.reduceLeDiff] at hg2)); (try (revert hg2; (with_reducible refine toNat_elim hg ?_); intro hg2 hg4)); try (have hg3 := hg2.2; have hg2 := hg2.1; (try (simp only [Nat.reduceLeDiff] at hg3))))) | (with_reducible refine condt_elim ?_ ?_; (focus (with_reducible assumption)); intro h) | (with_reducible refine condf_elim ?_ ?_; (focus (with_reducible assumption)); intro h)))
 | ((first | with_reducible refine seqQ_ret (K := (fun st1 n1 => Gh st1 n1 (MeetA _ 20000000 _ _))) ?_ | with_reducible refine seqQ_exit (K := (fun st1 n1 => Gh st1 n1 (MeetA _ 20000000 _ _))) ?_)
    obtain rfl := h.get
    have h := hK2
    (try (simp only [Sum.elim_inl, Sum.elim_inr] at h)))
 | ((first | with_reducible refine seqQ_ret (K := (fun st1 n1 => Gh st1 n1 (MeetA _ 10000000 _ _))) ?_ | with_reducible refine seqQ_exit (K := (fun st1 n1 => Gh st1 n1 (MeetA _ 10000000 _ _))) ?_)
    obtain rfl := h.get
    have h := hK1
    (try (simp only [Sum.elim_inl, Sum.elim_inr] at h)))
 | (with_reducible refine here_join (a := (.region 21 _ _)) (b := (.cond (.tmp 73) _ _)) ?_
    skip
    revert h
    with_reducible refine bind_elimY ?_
    intro o2 h hK2
    unfold spec_l03Gen_stmt.a2 at h
    refine sw_join (ι := Gl03Gen × Int × Bool) 20000000 (fun x : Gl03Gen × Int × Bool => [(.s 0, some (.v (.mp 0 5 0 0))), (.s 1, some (.v (V.int x.2.1))), (.s 4, some (.v (.mp 1 4 0 0))), (.s 73, some (.v (V.bool x.2.2))), (.r 0, some (.o 5 [[.mp 1 4 0 0, .sl 2 1 0 x.1.args.length, V.int x.1.locals, .d (.row .own 2 (Rw GI2.cells x.1.code)), V.int x.1.most]])), (.r 1, some (.o 4 [[.d (.row .bor 1 (Rw (cI .u8) x.1.s.b)), V.int x.1.s.at0, .d (.p (.int .u64 x.1.s.mix)), V.int x.1.s.size]])), (.r 2, some (.o 1 (dd (Rw (cI .i64) x.1.args))))]) (fun x => Yes (some (x)) o2) ?_ ?_
    rotate_left
    rintro ⟨b1, b2, b3⟩ h
    obtain rfl := h.get
    have h := hK2
    (try (simp only [Sum.elim_inl, Sum.elim_inr] at h))
    refine sw_gh ?_
    refine gh_sw ?_
    skip)
 | (with_reducible refine here_meet (N0 := 20000000) ?_
    skip
    refine meet_to (_, _, _) (by decide) ?_ h ?_
    · exact (by simp [slNL, C.inN, V.inN, V.inNs, V.inNss, inNss_dd, inNs_map_d])
    · simp only [SubL, putSt, lk, lkb, reduceCtorEq, Nat.reduceEqDiff, List.length_set, List.length_replicate]; repeat' (first | apply And.intro | rfl | trivial | (simp only [*]; done)))
 | (with_reducible refine here_join (a := (.seq (.region 19 _ _) _)) (b := (.cond (.tmp 62) _ _)) ?_
    skip
    revert h
    with_reducible refine bind_elimY ?_
    intro o1 h hK1
    unfold spec_l03Gen_stmt.a1 at h
    refine sw_join (ι := Gl03Gen × Int × Int × Bool) 10000000 (fun x : Gl03Gen × Int × Int × Bool => [(.s 0, some (.v (.mp 0 5 0 0))), (.s 1, some (.v (V.int x.2.1))), (.s 4, some (.v (.mp 1 4 0 0))), (.s 18, some (.v (V.int x.2.2.1))), (.s 62, some (.v (V.bool x.2.2.2))), (.r 0, some (.o 5 [[.mp 1 4 0 0, .sl 2 1 0 x.1.args.length, V.int x.1.locals, .d (.row .own 2 (Rw GI2.cells x.1.code)), V.int x.1.most]])), (.r 1, some (.o 4 [[.d (.row .bor 1 (Rw (cI .u8) x.1.s.b)), V.int x.1.s.at0, .d (.p (.int .u64 x.1.s.mix)), V.int x.1.s.size]])), (.r 2, some (.o 1 (dd (Rw (cI .i64) x.1.args))))]) (fun x => Yes (some (x)) o1) ?_ ?_
    rotate_left
    rintro ⟨b1, b2, b3, b4⟩ h
    obtain rfl := h.get
    have h := hK1
    (try (simp only [Sum.elim_inl, Sum.elim_inr] at h))
    refine sw_gh ?_
    refine gh_sw ?_
    skip)
 | (with_reducible refine here_meet (N0 := 10000000) ?_
    skip
    refine meet_to (_, _, _, _) (by decide) ?_ h ?_
    · exact (by simp [slNL, C.inN, V.inN, V.inNs, V.inNss, inNss_dd, inNs_map_d])
    · simp only [SubL, putSt, lk, lkb, reduceCtorEq, Nat.reduceEqDiff, List.length_set, List.length_replicate]; repeat' (first | apply And.intro | rfl | trivial | (simp only [*]; done)))
 | with_reducible refine sw_seq ?_
 | with_reducible refine seqQ_ret ?_
 | with_reducible refine seqQ_exit ?_
 | ((with_reducible refine wp_ite ?_ ?_)
    all_goals (intro hc; (try (simp only [Bool.not_eq_true, Bool.not_eq_false] at hc)); simp only [hc]))
 | (with_reducible apply regW_skip
    · simp only [dstOk, Nat.reduceLT]
    · rfl
    · simp only [putSt, lk, lkb, reduceCtorEq, Nat.reduceEqDiff]; done)
 | (with_reducible apply regW_yesN
    · simp only [dstOk, Nat.reduceLT]
    · rfl
    · simp only [putSt, lk, lkb, reduceCtorEq, Nat.reduceEqDiff]; done)
 | (with_reducible apply regW_no
    · simp only [dstOk, Nat.reduceLT]
    · rfl
    · simp only [putSt, lk, lkb, reduceCtorEq, Nat.reduceEqDiff, Bool.not_true, Bool.not_false]; done)
 | (with_reducible apply regW_guardN
    · simp only [dstOk, Nat.reduceLT]
    · rfl
    · simp only [putSt, lk, lkb, reduceCtorEq, Nat.reduceEqDiff]; rfl
    all_goals (intro hc; (try (simp only [Bool.not_true, Bool.not_false] at hc))))
 | (with_reducible apply sw_cond
    · simp only [putSt, lk, lkb, reduceCtorEq, Nat.reduceEqDiff]; rfl
    all_goals (intro hc; try (cases hc; done)))
 | ((first
     | ((with_reducible refine gh_ret ?_)
        revert h
        with_reducible refine some_elim ?_
        rintro rfl)
     | (with_reducible refine here_call ?_
        revert h
        with_reducible refine bind_elim ?_
        intro t ht h
        (first
          | (refine call_obj [1] (c_spec_l01Src_n ht) (by decide) ?_ ?_
             · first | exact .inl rfl | (refine .inr ⟨?_, ?_⟩; (focus (first | rfl | (simp only [V.nb, V.nbL, D.nb, D.nbL, Md.nb, nbb, GI2_nb, Gl01Src_nb, LcIi64_nb]; done))); (focus (simp [C.nb, V.nbLL, V.nbL, V.nb, D.nb]; done)))
             simp only [argsP, argP, V.namesOf, V.namesOfL, List.mem_append, List.append_nil, List.mem_cons, or_false, or_true, true_or, objsP, C.ren, V.ren, V.renL, renLL_dd, V.renLL, List.getD_cons_zero, List.getD_cons_succ, C.o.injEq, hyb, lendAL, lendA, undd.unddR, D.lendL, D.lend, Md.lend, GI2_lend, Gl01Src_lend, LcIi64_lend, putSt, lk, lkb, reduceCtorEq, Nat.reduceEqDiff, Prog.wp, Prog.wp_bind, Prog.bind, Prog.ofO, List.take_of_length_le, *])
          | (refine call_obj [0, 1, 2] (ih ht) (by decide) ?_ ?_
             · first | exact .inl rfl | (refine .inr ⟨?_, ?_⟩; (focus (first | rfl | (simp only [V.nb, V.nbL, D.nb, D.nbL, Md.nb, nbb, GI2_nb, Gl01Src_nb, LcIi64_nb]; done))); (focus (simp [C.nb, V.nbLL, V.nbL, V.nb, D.nb]; done)))
             simp only [argsP, argP, V.namesOf, V.namesOfL, List.mem_append, List.append_nil, List.mem_cons, or_false, or_true, true_or, objsP, C.ren, V.ren, V.renL, renLL_dd, V.renLL, List.getD_cons_zero, List.getD_cons_succ, C.o.injEq, hyb, lendAL, lendA, undd.unddR, D.lendL, D.lend, Md.lend, GI2_lend, Gl01Src_lend, LcIi64_lend, putSt, lk, lkb, reduceCtorEq, Nat.reduceEqDiff, Prog.wp, Prog.wp_bind, Prog.bind, Prog.ofO, List.take_of_length_le, *])
          | (refine call_obj [0, 1, 2] (c_spec_l03Gen_expr ht) (by decide) ?_ ?_
             · first | exact .inl rfl | (refine .inr ⟨?_, ?_⟩; (focus (first | rfl | (simp only [V.nb, V.nbL, D.nb, D.nbL, Md.nb, nbb, GI2_nb, Gl01Src_nb, LcIi64_nb]; done))); (focus (simp [C.nb, V.nbLL, V.nbL, V.nb, D.nb]; done)))
             simp only [argsP, argP, V.namesOf, V.namesOfL, List.mem_append, List.append_nil, List.mem_cons, or_false, or_true, true_or, objsP, C.ren, V.ren, V.renL, renLL_dd, V.renLL, List.getD_cons_zero, List.getD_cons_succ, C.o.injEq, hyb, lendAL, lendA, undd.unddR, D.lendL, D.lend, Md.lend, GI2_lend, Gl01Src_lend, LcIi64_lend, putSt, lk, lkb, reduceCtorEq, Nat.reduceEqDiff, Prog.wp, Prog.wp_bind, Prog.bind, Prog.ofO, List.take_of_length_le, *])
          | (refine call_obj [0, 1, 2] (c_spec_l03Gen_put ht) (by decide) ?_ ?_
             · first | exact .inl rfl | (refine .inr ⟨?_, ?_⟩; (focus (first | rfl | (simp only [V.nb, V.nbL, D.nb, D.nbL, Md.nb, nbb, GI2_nb, Gl01Src_nb, LcIi64_nb]; done))); (focus (simp [C.nb, V.nbLL, V.nbL, V.nb, D.nb]; done)))
             simp only [argsP, argP, V.namesOf, V.namesOfL, List.mem_append, List.append_nil, List.mem_cons, or_false, or_true, true_or, objsP, C.ren, V.ren, V.renL, renLL_dd, V.renLL, List.getD_cons_zero, List.getD_cons_succ, C.o.injEq, hyb, lendAL, lendA, undd.unddR, D.lendL, D.lend, Md.lend, GI2_lend, Gl01Src_lend, LcIi64_lend, putSt, lk, lkb, reduceCtorEq, Nat.reduceEqDiff, Prog.wp, Prog.wp_bind, Prog.bind, Prog.ofO, List.take_of_length_le, *])
          | (refine call_obj [0, 1, 2] (c_spec_l03Gen_full ht) (by decide) ?_ ?_
             · first | exact .inl rfl | (refine .inr ⟨?_, ?_⟩; (focus (first | rfl | (simp only [V.nb, V.nbL, D.nb, D.nbL, Md.nb, nbb, GI2_nb, Gl01Src_nb, LcIi64_nb]; done))); (focus (simp [C.nb, V.nbLL, V.nbL, V.nb, D.nb]; done)))
             simp only [argsP, argP, V.namesOf, V.namesOfL, List.mem_append, List.append_nil, List.mem_cons, or_false, or_true, true_or, objsP, C.ren, V.ren, V.renL, renLL_dd, V.renLL, List.getD_cons_zero, List.getD_cons_succ, C.o.injEq, hyb, lendAL, lendA, undd.unddR, D.lendL, D.lend, Md.lend, GI2_lend, Gl01Src_lend, LcIi64_lend, putSt, lk, lkb, reduceCtorEq, Nat.reduceEqDiff, Prog.wp, Prog.wp_bind, Prog.bind, Prog.ofO, List.take_of_length_le, *])
          | (refine call_obj [0, 1, 2] (c_spec_l03Gen_here ht) (by decide) ?_ ?_
             · first | exact .inl rfl | (refine .inr ⟨?_, ?_⟩; (focus (first | rfl | (simp only [V.nb, V.nbL, D.nb, D.nbL, Md.nb, nbb, GI2_nb, Gl01Src_nb, LcIi64_nb]; done))); (focus (simp [C.nb, V.nbLL, V.nbL, V.nb, D.nb]; done)))
             simp only [argsP, argP, V.namesOf, V.namesOfL, List.mem_append, List.append_nil, List.mem_cons, or_false, or_true, true_or, objsP, C.ren, V.ren, V.renL, renLL_dd, V.renLL, List.getD_cons_zero, List.getD_cons_succ, C.o.injEq, hyb, lendAL, lendA, undd.unddR, D.lendL, D.lend, Md.lend, GI2_lend, Gl01Src_lend, LcIi64_lend, putSt, lk, lkb, reduceCtorEq, Nat.reduceEqDiff, Prog.wp, Prog.wp_bind, Prog.bind, Prog.ofO, List.take_of_length_le, *])
          | (refine call_obj [0, 1, 2] (c_spec_l03Gen_local ht) (by decide) ?_ ?_
             · first | exact .inl rfl | (refine .inr ⟨?_, ?_⟩; (focus (first | rfl | (simp only [V.nb, V.nbL, D.nb, D.nbL, Md.nb, nbb, GI2_nb, Gl01Src_nb, LcIi64_nb]; done))); (focus (simp [C.nb, V.nbLL, V.nbL, V.nb, D.nb]; done)))
             simp only [argsP, argP, V.namesOf, V.namesOfL, List.mem_append, List.append_nil, List.mem_cons, or_false, or_true, true_or, objsP, C.ren, V.ren, V.renL, renLL_dd, V.renLL, List.getD_cons_zero, List.getD_cons_succ, C.o.injEq, hyb, lendAL, lendA, undd.unddR, D.lendL, D.lend, Md.lend, GI2_lend, Gl01Src_lend, LcIi64_lend, putSt, lk, lkb, reduceCtorEq, Nat.reduceEqDiff, Prog.wp, Prog.wp_bind, Prog.bind, Prog.ofO, List.take_of_length_le, *])))
     | (with_reducible apply regD_opK
        · simp only [dstOk, Nat.reduceLT]
        · simp only [Nat.reduceAdd]; rfl
        intro k hk)
     | (with_reducible apply regW_opK
        · simp only [dstOk, Nat.reduceLT]
        · simp only [Nat.reduceAdd]; rfl
        intro k hk)
     | skip)
    simp only [RetW, bn, lkb, evb, opC, opP, fetchN, fetchP, fetchAll, fetchO, Prog.bind, Prog.wp, Prog.wp_bind, lk, nameP, nameAll, Value.oneCell', putSt, stepP, putP, reduceCtorEq, V.lin, V.linL, D.lin, isNil, binP, unP, BinOp.isShift, Prog.ofO, Nat.reduceAdd, Nat.reduceMul, Nat.reduceSub, Nat.reduceLT, Nat.reduceLeDiff, Nat.reduceEqDiff, ite_true, ite_false, fieldAddrP, fieldP, indexAddrP, loadP, storeP, boxP, allocP, cellsP, asVal, setSeg, outP, outT, cntT, TyK.field, TyK.agg, zeroRow, V.ren, V.renL, forall_eq_or_imp, forall_const, minmaxP, lenP, lenOf, lenStr, V.asInt, decide_true, decide_false, sliceP, boundP, makeSliceP, convertP, appendP, rowsOfP, ontoP, sizeFits, V.rowSize, TyK.src, resV, resV.go, resV.gol, retP, retOne, retAll, resTo, objsAre, Option.map_eq_map, Function.const_apply, Int.reduceNeg, Int.reduceToNat, ty2, ty3, ty5, ty26, ty37, ty41, ty63, ty107, ty113, ty139, ty140, ty143, GI2.cells, Gl01Src.cells, cI, cB, cS, cL, GI2_e, Gl01Src_e, LcIi64_e, nilEqP, ne_eq, not_false_eq_true, not_true_eq_false, *]
    try (refine hk.use _ _ _ _ ?_; clear hk k))
 | fail)
  all_goals (try rfl)
  all_goals (try (simp; done))
  all_goals (try (simp_all; done))
def spec_l01Src_l03Spoil.l1 : Nat → Gl01Src → GProgram → Option (Gl01Src × GProgram)
  | 0, _, _ => none
  | k + 1, a1, a2 => (spec_l01Src_n k a1 2).bind fun t14 => cond ((decide (((a2.funcs.length : Int)) < ((IntKind.i64.wrap (6 + t14.1)))))) ((idx a2.funcs 0).bind fun m15 => gd ((a2.funcs.length + 1) * 40 ≤ 35184372088832 ∧ a2.funcs.length + 1 ≤ 35184372088832) (spec_l01Src_l03Spoil.l1 k t14.2 ((⟨(a2.funcs ++ [m15])⟩ : GProgram)))) (some (t14.2, a2))
def spec_l01Src_l03Spoil (k : Nat) (p0 : Gl01Src) (p1 : GProgram) : Option (Gl01Src × GProgram) :=
  (spec_l01Src_n k p0 ((p1.funcs.length : Int))).bind fun t1 => (idx p1.funcs t1.1).bind fun m2 => (spec_l01Src_n k t1.2 ((m2.code.length : Int))).bind fun t3 => (spec_l01Src_n k t3.2 8).bind fun t4 => cond ((t4.1 == 0)) ((spec_l01Src_n k t4.2 42).bind fun t5 => (idx m2.code t3.1).bind fun m6 => some (t5.2, (⟨(p1.funcs.set t1.1.toNat (⟨m2.args, m2.locals, (m2.code.set t3.1.toNat ((⟨(IntKind.i64.wrap (t5.1 - 1)), m6.b⟩ : GI2)))⟩ : GFunc))⟩ : GProgram))) (cond ((t4.1 == 1)) ((spec_l01Src_n k t4.2 70).bind fun t7 => (idx m2.code t3.1).bind fun m8 => some (t7.2, (⟨(p1.funcs.set t1.1.toNat (⟨m2.args, m2.locals, (m2.code.set t3.1.toNat ((⟨m8.a, (IntKind.i64.wrap (t7.1 - 2))⟩ : GI2)))⟩ : GFunc))⟩ : GProgram))) (cond ((t4.1 == 2)) ((spec_l01Src_n k t4.2 7).bind fun t9 => some (t9.2, (⟨(p1.funcs.set t1.1.toNat (⟨(IntKind.i64.wrap (t9.1 - 1)), m2.locals, m2.code⟩ : GFunc))⟩ : GProgram))) (cond ((t4.1 == 3)) ((spec_l01Src_n k t4.2 4).bind fun t10 => (idx ([(-1), 0, 8, 9]) t10.1).bind fun m11 => some (t10.2, (⟨(p1.funcs.set t1.1.toNat (⟨m2.args, m11, m2.code⟩ : GFunc))⟩ : GProgram))) (cond ((t4.1 == 4)) (gd (0 ≤ t3.1 ∧ t3.1 ≤ (m2.code.length : Int)) (some (t4.2, (⟨(p1.funcs.set t1.1.toNat (⟨m2.args, m2.locals, (m2.code.take t3.1.toNat)⟩ : GFunc))⟩ : GProgram)))) (cond ((t4.1 == 5)) (gd ((m2.code.length + 1) * 16 ≤ 35184372088832 ∧ m2.code.length + 1 ≤ 35184372088832) (some (t4.2, (⟨(p1.funcs.set t1.1.toNat ((⟨m2.args, m2.locals, (m2.code ++ [(⟨5, 0⟩ : GI2)])⟩ : GFunc)))⟩ : GProgram)))) (cond ((t4.1 == 6)) ((spec_l01Src_n k t4.2 ((m2.code.length : Int))).bind fun t12 => (idx m2.code t3.1).bind fun m13 => some (t12.2, (⟨(p1.funcs.set t1.1.toNat (⟨m2.args, m2.locals, (m2.code.set t3.1.toNat ((⟨30, t12.1⟩ : GI2)))⟩ : GFunc))⟩ : GProgram))) ((spec_l01Src_l03Spoil.l1 k t4.2 ((⟨(p1.funcs.set t1.1.toNat m2)⟩ : GProgram))).bind fun o1 => some (o1.1, o1.2))))))))
theorem c_spec_l01Src_l03Spoil {k : Nat} {p0 : Gl01Src} {p1 : GProgram} {r : Gl01Src × GProgram} (h : spec_l01Src_l03Spoil k p0 p1 = some r) : Con Try.prog 99 [.mp 0 4 0 0, .mp 1 1 0 0] [.o 4 [[.d (.row .bor 1 (Rw (cI .u8) p0.b)), V.int p0.at0, .d (.p (.int .u64 p0.mix)), V.int p0.size]], .o 1 [[.d (.row .own 3 (Rw (GFunc.cells .own) p1.funcs))]]] (.tup []) [.o 4 [[.d (.row .bor 1 (Rw (cI .u8) r.1.b)), V.int r.1.at0, .d (.p (.int .u64 r.1.mix)), V.int r.1.size]], .o 1 [[.d (.row .frz 3 (Rw (GFunc.cells .frz) r.2.funcs))]]] := by
  refine con_of_sw Try.func99 rfl Try.call99 (by simp [Try.ntmps99]) (by simp [V.inNs, V.inN]) (by simp [C.inN, V.inNss, V.inNs, V.inN, inNss_dd]) (by simp [V.inNs, V.inN]) (by simp [C.inN, V.inNss, V.inNs, V.inN, inNss_dd]) rfl ?_
  rw [Try.ntmps99, Try.results99]
  unfold spec_l01Src_l03Spoil at h
  replace h := Yes.mk h
  simp only [entryS, entryO, Nat.reduceAdd, List.length_nil, List.length_cons]
  repeat' (first
 | (with_reducible refine here_reg (i := 0) ?_
    refine sw_gh ?_
    with_reducible apply gh_nameCell 1 0
    · simp only [putSt, lk, lkb, reduceCtorEq, Nat.reduceEqDiff]; rfl
    · rfl
    simp only [List.set_cons_zero, List.set_cons_succ, Nat.reduceAdd, Rw_length]
    refine gh_sw ?_)
 | (with_reducible refine here_reg (i := 3) ?_
    refine sw_gh ?_
    with_reducible apply gh_nameCell 1 0
    · simp only [putSt, lk, lkb, reduceCtorEq, Nat.reduceEqDiff]; rfl
    · rfl
    simp only [List.set_cons_zero, List.set_cons_succ, Nat.reduceAdd, Rw_length]
    refine gh_sw ?_)
 | (with_reducible (first | refine sw_reg ?_ | refine sw_ret ?_ | refine sw_skip ?_ | refine sw_block ?_ | refine sw_exit ?_ | refine seqQ_normal ?_ | refine blockQ_normal ?_ | refine blockQ_ret ?_ | refine blockQ_this ?_ | refine blockQ_other (by decide) ?_ | refine regW_nil ?_ | refine sw_draw mixed ?_ | refine retQ_ret ?_ | refine retQ_normal ?_))
 | (with_reducible refine regD_nil ?_
    refine ⟨by kernel_rfl, ?_⟩)
 | (revert h; (first | ((with_reducible refine idx_elim ?_); intro m hm1 hm2 hm3 h; (try (simp only [Int.reduceToNat] at hm3)); (try (revert hm3; (with_reducible apply same_elim); (focus (with_reducible assumption)); rintro rfl)); (try (simp only [List.length_set, List.length_cons, List.length_nil, List.length_replicate, Nat.reduceAdd, Int.cast_ofNat_Int, Nat.zero_add, List.length_append] at hm2))) | (with_reducible refine sidx_elim ?_; intro m hm1 hm3 h) | (with_reducible refine gd_elim ?_; intro hg h; try (have hg2 := hg.2; have hg := hg.1; (try (simp only [Nat.reduceLeDiff] at hg2)); (try (revert hg2; (with_reducible refine toNat_elim hg ?_); intro hg2 hg4)); try (have hg3 := hg2.2; have hg2 := hg2.1; (try (simp only [Nat.reduceLeDiff] at hg3))))) | (with_reducible refine condt_elim ?_ ?_; (focus (with_reducible assumption)); intro h) | (with_reducible refine condf_elim ?_ ?_; (focus (with_reducible assumption)); intro h)))
 | ((first | with_reducible refine seqQ_ret (K := (fun st1 n1 => Gh st1 n1 (NextS _ 10000000 _ _ _ _))) ?_ | with_reducible refine seqQ_exit (K := (fun st1 n1 => Gh st1 n1 (NextS _ 10000000 _ _ _ _))) ?_)
    obtain rfl := h.get
    have h := hK1
    (try (simp only [Sum.elim_inl, Sum.elim_inr] at h)))
 | (with_reducible refine here_loop (c := (.seq (.seq (.region 3 _ _) _) _)) ?_
    skip
    revert h
    with_reducible refine bind_elimY ?_
    intro o1 h hK1
    refine sw_gh ?_
    (try (apply gh_resRow 2; (focus (simp only [putSt, lk, lkb, reduceCtorEq, Nat.reduceEqDiff]; try rfl)); (focus (first | (simp only [Rw_length, List.length_set]; omega) | (simp [Rw_length]; omega))); simp only [rxb, Nat.reduceAdd, Nat.reduceLeDiff, resSlotP, nameSlotP, Prog.wp, Prog.wp_bind, Prog.bind, Prog.ofO, putSt, lk, lkb, reduceCtorEq, Nat.reduceEqDiff, resV, resV.go, resV.gol, nameAll, nameP, outP, outT, cntT, V.lin, D.lin, *, mmb, GI2_Dset, GFunc_Dset, GProgram_Dset, Gl01Src_Dset, LcIi64_Dset]))
    (try (apply gh_resSl 1 0; (focus (simp only [putSt, lk, lkb, reduceCtorEq, Nat.reduceEqDiff]; try rfl)); (focus rfl); simp only [rxb, Nat.reduceAdd, Nat.reduceLeDiff, resSlotP, nameSlotP, Prog.wp, Prog.wp_bind, Prog.bind, Prog.ofO, putSt, lk, lkb, reduceCtorEq, Nat.reduceEqDiff, resV, resV.go, resV.gol, nameAll, nameP, outP, outT, cntT, V.lin, D.lin, *, mmb, GI2_Dset, GFunc_Dset, GProgram_Dset, Gl01Src_Dset, LcIi64_Dset]))
    (apply gh_frz 1 0; (focus (simp only [putSt, lk, lkb, reduceCtorEq, Nat.reduceEqDiff]; try rfl)); (focus rfl); (focus (exact .inn)); simp only [List.set_cons_zero, List.set_cons_succ, Md.fz, GI2_frz, GFunc_frz, GProgram_frz, Gl01Src_frz, LcIi64_frz])
    refine gh_sw ?_
    refine sw_loop (ι := Nat × Gl01Src × GProgram) 10000000 (by decide) (fun x : Nat × Gl01Src × GProgram => [(.s 0, some (.v (.mp 0 4 0 0))), (.s 1, some (.v (.mp 1 1 0 0))), (.r 0, some (.o 4 [[.d (.row .bor 1 (Rw (cI .u8) x.2.1.b)), V.int x.2.1.at0, .d (.p (.int .u64 x.2.1.mix)), V.int x.2.1.size]])), (.r 1, some (.o 1 [[.d (.row .own 3 (Rw (GFunc.cells .frz) x.2.2.funcs))]]))]) (fun x => x.1) (fun x => Yes (spec_l01Src_l03Spoil.l1 x.1 x.2.1 x.2.2) o1) (_, _, _) ?_ h ?_ ?_
    · exact (by simp [slNL, C.inN, V.inN, V.inNs, V.inNss, inNss_dd, inNs_map_d])
    · simp only [SubL, putSt, lk, lkb, reduceCtorEq, Nat.reduceEqDiff, List.length_set, List.length_replicate]; repeat' (first | apply And.intro | rfl | trivial | (simp only [*]; done))
    rintro ⟨_ | k, a1, a2⟩ h
    · simp only [spec_l01Src_l03Spoil.l1] at h; exact h.none
    simp only [spec_l01Src_l03Spoil.l1] at h
)
 | (with_reducible refine here_next (N0 := 10000000) ?_
    skip
    refine nexts_to (_, _, _) (by decide) ?_ (Nat.lt_succ_self _) h ?_
    · exact (by simp [slNL, C.inN, V.inN, V.inNs, V.inNss, inNss_dd, inNs_map_d])
    · simp only [SubL, putSt, lk, lkb, reduceCtorEq, Nat.reduceEqDiff, List.length_set, List.length_replicate]; repeat' (first | apply And.intro | rfl | trivial | (simp only [*]; done)))
 | with_reducible refine sw_seq ?_
 | with_reducible refine seqQ_ret ?_
 | with_reducible refine seqQ_exit ?_
 | (with_reducible refine here_retw ?_
    with_reducible apply gh_resRow 2
    · simp only [putSt, lk, lkb, reduceCtorEq, Nat.reduceEqDiff]; rfl
    · first | (simp only [Rw_length, List.length_set]; omega) | (simp [Rw_length]; omega)
    simp only [rxb, Nat.reduceAdd, Nat.reduceLeDiff, resSlotP, nameSlotP, Prog.wp, Prog.wp_bind, Prog.bind, Prog.ofO, putSt, lk, lkb, reduceCtorEq, Nat.reduceEqDiff, resV, resV.go, resV.gol, nameAll, nameP, outP, outT, cntT, V.lin, D.lin, mmb, GI2_Dset, GFunc_Dset, GProgram_Dset, Gl01Src_Dset, LcIi64_Dset, *])
 | (with_reducible refine here_retw ?_
    with_reducible apply gh_resSl 1 0
    · simp only [putSt, lk, lkb, reduceCtorEq, Nat.reduceEqDiff]; rfl
    · rfl
    simp only [rxb, Nat.reduceAdd, Nat.reduceLeDiff, resSlotP, nameSlotP, Prog.wp, Prog.wp_bind, Prog.bind, Prog.ofO, putSt, lk, lkb, reduceCtorEq, Nat.reduceEqDiff, resV, resV.go, resV.gol, nameAll, nameP, outP, outT, cntT, V.lin, D.lin, *])
 | (with_reducible refine here_retw ?_
    with_reducible apply gh_frz 1 0
    · simp only [putSt, lk, lkb, reduceCtorEq, Nat.reduceEqDiff]; rfl
    · rfl
    · exact .all
    simp only [List.set_cons_zero, List.set_cons_succ, Md.fz, GI2_frz, GFunc_frz, GProgram_frz, Gl01Src_frz, LcIi64_frz])
 | ((with_reducible refine wp_ite ?_ ?_)
    all_goals (intro hc; (try (simp only [Bool.not_eq_true, Bool.not_eq_false] at hc)); simp only [hc]))
 | (with_reducible apply regW_skip
    · simp only [dstOk, Nat.reduceLT]
    · rfl
    · simp only [putSt, lk, lkb, reduceCtorEq, Nat.reduceEqDiff]; done)
 | (with_reducible apply regW_yesN
    · simp only [dstOk, Nat.reduceLT]
    · rfl
    · simp only [putSt, lk, lkb, reduceCtorEq, Nat.reduceEqDiff]; done)
 | (with_reducible apply regW_no
    · simp only [dstOk, Nat.reduceLT]
    · rfl
    · simp only [putSt, lk, lkb, reduceCtorEq, Nat.reduceEqDiff, Bool.not_true, Bool.not_false]; done)
 | (with_reducible apply regW_guardN
    · simp only [dstOk, Nat.reduceLT]
    · rfl
    · simp only [putSt, lk, lkb, reduceCtorEq, Nat.reduceEqDiff]; rfl
    all_goals (intro hc; (try (simp only [Bool.not_true, Bool.not_false] at hc))))
 | (with_reducible apply sw_cond
    · simp only [putSt, lk, lkb, reduceCtorEq, Nat.reduceEqDiff]; rfl
    all_goals (intro hc; try (cases hc; done)))
 | ((first
     | ((with_reducible refine gh_ret ?_)
        revert h
        with_reducible refine some_elim ?_
        rintro rfl)
     | (with_reducible refine here_call ?_
        revert h
        with_reducible refine bind_elim ?_
        intro t ht h
        (first
          | (refine call_obj [0] (c_spec_l01Src_n ht) (by decide) ?_ ?_
             · first | exact .inl rfl | (refine .inr ⟨?_, ?_⟩; (focus (first | rfl | (simp only [V.nb, V.nbL, D.nb, D.nbL, Md.nb, nbb, GI2_nb, GFunc_nb, GProgram_nb, Gl01Src_nb, LcIi64_nb]; done))); (focus (simp [C.nb, V.nbLL, V.nbL, V.nb, D.nb]; done)))
             simp only [argsP, argP, V.namesOf, V.namesOfL, List.mem_append, List.append_nil, List.mem_cons, or_false, or_true, true_or, objsP, C.ren, V.ren, V.renL, renLL_dd, V.renLL, List.getD_cons_zero, List.getD_cons_succ, C.o.injEq, hyb, lendAL, lendA, undd.unddR, D.lendL, D.lend, Md.lend, GI2_lend, GFunc_lend, GProgram_lend, Gl01Src_lend, LcIi64_lend, putSt, lk, lkb, reduceCtorEq, Nat.reduceEqDiff, Prog.wp, Prog.wp_bind, Prog.bind, Prog.ofO, List.take_of_length_le, *])))
     | (with_reducible apply regD_opK
        · simp only [dstOk, Nat.reduceLT]
        · simp only [Nat.reduceAdd]; rfl
        intro k hk)
     | (with_reducible apply regW_opK
        · simp only [dstOk, Nat.reduceLT]
        · simp only [Nat.reduceAdd]; rfl
        intro k hk)
     | skip)
    simp only [RetW, bn, lkb, evb, opC, opP, fetchN, fetchP, fetchAll, fetchO, Prog.bind, Prog.wp, Prog.wp_bind, lk, nameP, nameAll, Value.oneCell', putSt, stepP, putP, reduceCtorEq, V.lin, V.linL, D.lin, isNil, binP, unP, BinOp.isShift, Prog.ofO, Nat.reduceAdd, Nat.reduceMul, Nat.reduceSub, Nat.reduceLT, Nat.reduceLeDiff, Nat.reduceEqDiff, ite_true, ite_false, fieldAddrP, fieldP, indexAddrP, loadP, storeP, boxP, allocP, cellsP, asVal, setSeg, outP, outT, cntT, TyK.field, TyK.agg, zeroRow, V.ren, V.renL, forall_eq_or_imp, forall_const, minmaxP, lenP, lenOf, lenStr, V.asInt, decide_true, decide_false, sliceP, boundP, makeSliceP, convertP, appendP, rowsOfP, ontoP, sizeFits, V.rowSize, TyK.src, resV, resV.go, resV.gol, retP, retOne, retAll, resTo, objsAre, Option.map_eq_map, Function.const_apply, Int.reduceNeg, Int.reduceToNat, ty2, ty3, ty4, ty5, ty26, ty28, ty30, ty37, ty41, ty63, ty65, ty107, ty113, ty139, ty147, GFunc.cells, GI2.cells, GProgram.cells, Gl01Src.cells, cI, cB, cS, cL, GI2_e, GFunc_e, GProgram_e, Gl01Src_e, LcIi64_e, buildP, buildSliceP, putParts, structPlaces, chunks, List.replicate, List.flatten_nil, List.flatten_cons, Option.bind_some, bb, GI2_b, GFunc_b, GProgram_b, Gl01Src_b, LcIi64_b, List.length_take, Nat.min_eq_left, nilEqP, ne_eq, not_false_eq_true, not_true_eq_false, GFunc_fset, GFunc_fone, GFunc_fcons, GFunc_fdone, GFunc_fdcons, GProgram_fset, GProgram_fone, GProgram_fcons, GProgram_fdone, GProgram_fdcons, Gl01Src_fset, Gl01Src_fone, Gl01Src_fcons, Gl01Src_fdone, Gl01Src_fdcons, *]
    try (refine hk.use _ _ _ _ ?_; clear hk k))
 | fail)
  all_goals (try rfl)
  all_goals (try (simp; done))
  all_goals (try (simp_all; done))
def spec_l01Src_l03Program.l1 : Nat → Gl01Src → GProgram → GProgram → (List Int) → Int → Option (Gl01Src × GProgram × GProgram × (List Int))
  | 0, _, _, _, _, _ => none
  | k + 1, a1, a2, a3, a4, a5 => cond ((decide (a5 > 0))) ((spec_l01Src_n k a1 3).bind fun t2 => gd ((a4.length + 1) * 8 ≤ 35184372088832 ∧ a4.length + 1 ≤ 35184372088832) (spec_l01Src_l03Program.l1 k t2.2 a2 a3 ((a4 ++ [t2.1])) ((IntKind.i64.wrap (a5 - 1))))) (some (a1, a2, a3, a4))
def spec_l01Src_l03Program.l3 : Nat → GProgram → GProgram → Gl03Gen → Int → Int → Option (GProgram × GProgram × Gl03Gen × Int)
  | 0, _, _, _, _, _ => none
  | k + 1, a1, a2, a3, a4, a5 => cond ((decide (a5 > 0))) ((spec_l03Gen_stmt k a3 2).bind fun t7 => gd (t7.args.length = a3.args.length) (spec_l01Src_l03Program.l3 k a1 a2 t7 a4 ((IntKind.i64.wrap (a5 - 1))))) (some (a1, a2, a3, a4))
def spec_l01Src_l03Program.l2 : Nat → Gl01Src → GProgram → GProgram → (List Int) → Int → Option (Gl01Src × GProgram × GProgram)
  | 0, _, _, _, _, _ => none
  | k + 1, a1, a2, a3, a4, a5 => cond ((decide (a5 < ((a4.length : Int))))) ((idx a4 a5).bind fun m3 => (spec_l01Src_n k a1 4).bind fun t4 => (spec_l01Min 8 ((IntKind.i64.wrap (m3 + t4.1)))).bind fun t5 => (spec_l01Src_n k t4.2 3).bind fun t6 => (spec_l01Src_l03Program.l3 k a2 a3 ((⟨t6.2, a4, t5, [], (IntKind.i64.wrap (10 + ((IntKind.i64.wrap (2 * a1.size)))))⟩ : Gl03Gen)) a5 ((IntKind.i64.wrap (1 + t6.1)))).bind fun o3 => gd (o3.2.2.1.args.length = a4.length) ((spec_l03Gen_expr k o3.2.2.1 2).bind fun t8 => gd (t8.args.length = a4.length) ((spec_l03Gen_put t8 33 0).bind fun t9 => gd (t9.2.args.length = a4.length) ((idx t9.2.args o3.2.2.2).bind fun m10 => gd ((o3.2.1.funcs.length + 1) * 40 ≤ 35184372088832 ∧ o3.2.1.funcs.length + 1 ≤ 35184372088832) (spec_l01Src_l03Program.l2 k t9.2.s o3.1 ((⟨(o3.2.1.funcs ++ [(⟨m10, t9.2.locals, t9.2.code⟩ : GFunc)])⟩ : GProgram)) t9.2.args ((IntKind.i64.wrap (o3.2.2.2 + 1)))))))) (some (a1, a2, a3))
def spec_l01Src_l03Program (k : Nat) (p0 : Gl01Src) : Option (GProgram × Gl01Src) :=
  (spec_l01Src_n k p0 3).bind fun t1 => (spec_l01Src_l03Program.l1 k t1.2 ((⟨[]⟩ : GProgram)) ((⟨[]⟩ : GProgram)) [] ((IntKind.i64.wrap (1 + t1.1)))).bind fun o1 => (spec_l01Src_l03Program.l2 k o1.1 o1.2.1 o1.2.2.1 o1.2.2.2 0).bind fun o2 => (spec_l01Src_one k o2.1 12).bind fun t11 => cond t11.1 ((spec_l01Src_l03Spoil k t11.2 o2.2.2).bind fun t12 => some (t12.2, t12.1)) (some (o2.2.2, t11.2))
theorem keep_n {k : Nat} {p : Gl01Src} {m : Int} {r : Int × Gl01Src} (h : spec_l01Src_n k p m = some r) : r.2.size = p.size := by
  unfold spec_l01Src_n spec_l01Src_n.a1 at h
  cases e : decide (m ≤ 1) with
  | true => rw [e] at h; simp only [cond_true, Option.some.injEq] at h; rw [← h]
  | false =>
    rw [e] at h
    simp only [cond_false] at h
    obtain ⟨o1, ho, h⟩ := bind_some h
    have hs : o1.1.size = p.size := by
      cases e2 : decide (p.at0 < ((p.b.length : Int))) with
      | true =>
        rw [e2] at ho
        simp only [cond_true] at ho
        obtain ⟨y, -, ho⟩ := bind_some ho
        simp only [Option.some.injEq] at ho
        rw [← ho]
      | false => rw [e2] at ho; simp only [cond_false, Option.some.injEq] at ho; rw [← ho]
    have h3 := (gd_some h).2
    simp only [Option.some.injEq] at h3
    rw [← h3]
    exact hs
theorem c_spec_l01Src_l03Program {k : Nat} {p0 : Gl01Src} {r : GProgram × Gl01Src} (h : spec_l01Src_l03Program k p0 = some r) : Con Try.prog 77 [.mp 0 4 0 0] [.o 4 [[.d (.row .bor 1 (Rw (cI .u8) p0.b)), V.int p0.at0, .d (.p (.int .u64 p0.mix)), V.int p0.size]]] (.agg [.d (.row .frz 3 (Rw (GFunc.cells .frz) r.1.funcs))]) [.o 4 [[.d (.row .bor 1 (Rw (cI .u8) r.2.b)), V.int r.2.at0, .d (.p (.int .u64 r.2.mix)), V.int r.2.size]]] := by
  refine con_of_sw Try.func77 rfl Try.call77 (by simp [Try.ntmps77]) (by simp [V.inNs, V.inN]) (by simp [C.inN, V.inNss, V.inNs, V.inN, inNss_dd]) (by simp [V.inNs, V.inN]) (by simp [C.inN, V.inNss, V.inNs, V.inN, inNss_dd]) rfl ?_
  rw [Try.ntmps77, Try.results77]
  unfold spec_l01Src_l03Program at h
  replace h := Yes.mk h
  simp only [entryS, entryO, Nat.reduceAdd, List.length_nil, List.length_cons]
  repeat' (first
 | (with_reducible refine here_reg (i := 17) ?_
    refine sw_gh ?_
    with_reducible apply gh_nameCell 129 0
    · simp only [putSt, lk, lkb, reduceCtorEq, Nat.reduceEqDiff]; rfl
    · rfl
    simp only [List.set_cons_zero, List.set_cons_succ, Nat.reduceAdd, Rw_length]
    with_reducible apply gh_nameCell 20001344 3
    · simp only [putSt, lk, lkb, reduceCtorEq, Nat.reduceEqDiff]; rfl
    · rfl
    simp only [List.set_cons_zero, List.set_cons_succ, Nat.reduceAdd, Rw_length]
    refine gh_sw ?_)
 | (with_reducible refine here_reg (i := 10) ?_
    with_reducible apply sw_drawS 0 3 mixed
    · simp only [putSt, lk, lkb, reduceCtorEq, Nat.reduceEqDiff]; rfl
    · rfl)
 | (with_reducible apply regS_nil
    · simp only [putSt, lk, lkb, reduceCtorEq, Nat.reduceEqDiff]; rfl
    · rfl
    refine ⟨by kernel_rfl, ?_⟩)
 | (with_reducible apply regS_load
    · simp only [putSt, lk, lkb, reduceCtorEq, Nat.reduceEqDiff]; rfl
    · rfl
    · simp only [dstOk, Nat.reduceLT]
    · simp only [Nat.reduceAdd]; rfl
    · simp only [putSt, lk, lkb, reduceCtorEq, Nat.reduceEqDiff]; try rfl
    · simp only [ty2, ty3, ty5, ty26, ty28, ty30, ty37, ty41, ty63, ty65, ty107, ty113, ty139, ty140, ty143, ty147]; try rfl
    · rfl
    · rfl
    · rfl)
 | (with_reducible apply regS_opK
    · simp only [putSt, lk, lkb, reduceCtorEq, Nat.reduceEqDiff]; rfl
    · rfl
    · simp only [dstOk, Nat.reduceLT]
    · simp only [Nat.reduceAdd]; rfl
    intro k hk
    simp only [RetW, bn, lkb, evb, opC, opP, fetchN, fetchP, fetchAll, fetchO, Prog.bind, Prog.wp, Prog.wp_bind, lk, nameP, nameAll, Value.oneCell', putSt, stepP, putP, reduceCtorEq, V.lin, V.linL, D.lin, isNil, binP, unP, BinOp.isShift, Prog.ofO, Nat.reduceAdd, Nat.reduceMul, Nat.reduceSub, Nat.reduceLT, Nat.reduceLeDiff, Nat.reduceEqDiff, ite_true, ite_false, fieldAddrP, fieldP, indexAddrP, loadP, storeP, boxP, allocP, cellsP, asVal, setSeg, outP, outT, cntT, TyK.field, TyK.agg, zeroRow, V.ren, V.renL, forall_eq_or_imp, forall_const, minmaxP, lenP, lenOf, lenStr, V.asInt, decide_true, decide_false, sliceP, boundP, makeSliceP, convertP, appendP, rowsOfP, ontoP, sizeFits, V.rowSize, TyK.src, resV, resV.go, resV.gol, retP, retOne, retAll, resTo, objsAre, Option.map_eq_map, Function.const_apply, Int.reduceNeg, Int.reduceToNat, ty2, ty3, ty5, ty26, ty28, ty30, ty37, ty41, ty63, ty65, ty107, ty113, ty139, ty140, ty143, ty147, GFunc.cells, GI2.cells, GProgram.cells, Gl01Src.cells, cI, cB, cS, cL, GI2_e, GFunc_e, GProgram_e, Gl01Src_e, LcIi64_e, buildP, buildSliceP, putParts, structPlaces, chunks, List.replicate, List.flatten_nil, List.flatten_cons, Option.bind_some, bb, GI2_b, GFunc_b, GProgram_b, Gl01Src_b, LcIi64_b, nilEqP, ne_eq, not_false_eq_true, not_true_eq_false, GFunc_fset, GFunc_fone, GFunc_fcons, GFunc_fdone, GFunc_fdcons, GProgram_fset, GProgram_fone, GProgram_fcons, GProgram_fdone, GProgram_fdcons, Gl01Src_fset, Gl01Src_fone, Gl01Src_fcons, Gl01Src_fdone, Gl01Src_fdcons, *]
    try (refine hk.use _ _ _ _ ?_; clear hk k))
 | (with_reducible (first | refine sw_reg ?_ | refine sw_ret ?_ | refine sw_skip ?_ | refine sw_block ?_ | refine sw_exit ?_ | refine seqQ_normal ?_ | refine blockQ_normal ?_ | refine blockQ_ret ?_ | refine blockQ_this ?_ | refine blockQ_other (by decide) ?_ | refine regW_nil ?_ | refine sw_draw mixed ?_ | refine retQ_ret ?_ | refine retQ_normal ?_))
 | (with_reducible refine regD_nil ?_
    refine ⟨by kernel_rfl, ?_⟩)
 | (revert h; (first | ((with_reducible refine idx_elim ?_); intro m hm1 hm2 hm3 h; (try (simp only [Int.reduceToNat] at hm3)); (try (revert hm3; (with_reducible apply same_elim); (focus (with_reducible assumption)); rintro rfl)); (try (simp only [List.length_set, List.length_cons, List.length_nil, List.length_replicate, Nat.reduceAdd, Int.cast_ofNat_Int, Nat.zero_add, List.length_append] at hm2)); (try (simp only [*] at hm2))) | (with_reducible refine sidx_elim ?_; intro m hm1 hm3 h) | (with_reducible refine gd_elim ?_; intro hg h; try (have hg2 := hg.2; have hg := hg.1; (try (simp only [Nat.reduceLeDiff] at hg2)); (try (revert hg2; (with_reducible refine toNat_elim hg ?_); intro hg2 hg4)); try (have hg3 := hg2.2; have hg2 := hg2.1; (try (simp only [Nat.reduceLeDiff] at hg3))))) | (with_reducible refine condt_elim ?_ ?_; (focus (with_reducible assumption)); intro h) | (with_reducible refine condf_elim ?_ ?_; (focus (with_reducible assumption)); intro h)))
 | ((first | with_reducible refine seqQ_ret (K := (fun st1 n1 => Gh st1 n1 (NextS _ 30000000 _ _ _ _))) ?_ | with_reducible refine seqQ_exit (K := (fun st1 n1 => Gh st1 n1 (NextS _ 30000000 _ _ _ _))) ?_)
    obtain rfl := h.get
    have h := hK3
    (try (simp only [Sum.elim_inl, Sum.elim_inr] at h)))
 | ((first | with_reducible refine seqQ_ret (K := (fun st1 n1 => Gh st1 n1 (NextS _ 20000000 _ _ _ _))) ?_ | with_reducible refine seqQ_exit (K := (fun st1 n1 => Gh st1 n1 (NextS _ 20000000 _ _ _ _))) ?_)
    obtain rfl := h.get
    have h := hK2
    (try (simp only [Sum.elim_inl, Sum.elim_inr] at h)))
 | ((first | with_reducible refine seqQ_ret (K := (fun st1 n1 => Gh st1 n1 (NextS _ 10000000 _ _ _ _))) ?_ | with_reducible refine seqQ_exit (K := (fun st1 n1 => Gh st1 n1 (NextS _ 10000000 _ _ _ _))) ?_)
    obtain rfl := h.get
    have h := hK1
    (try (simp only [Sum.elim_inl, Sum.elim_inr] at h)))
 | (with_reducible refine here_loop (c := (.seq (.seq (.region 12 _ _) _) _)) ?_
    skip
    revert h
    with_reducible refine bind_elimY ?_
    intro o3 h hK3
    refine sw_gh ?_
    (try (apply gh_conv 20001344; (focus (simp only [putSt, lk, lkb, reduceCtorEq, Nat.reduceEqDiff]; try rfl)); (focus (exact .cons (.cons .same (.cons .same (.cons .same (.cons (.nil (m := .own) (s := 2)) (.cons .same (.nil)))))) .nil))))
    refine gh_sw ?_
    refine sw_loop (ι := Nat × GProgram × GProgram × Gl03Gen × Int × Int) 30000000 (by decide) (fun x : Nat × GProgram × GProgram × Gl03Gen × Int × Int => [(.s 0, some (.v (.mp 0 4 0 0))), (.s 2, some (.v (.mp 1 1 0 0))), (.s 3, some (.v (.mp 129 1 0 0))), (.s 4, some (.v (.sl 10000000 1 0 x.2.2.2.1.args.length))), (.s 6, some (.v (V.int x.2.2.2.2.1))), (.s 7, some (.v (.mp 20001344 5 0 0))), (.s 8, some (.v (V.int x.2.2.2.2.2))), (.r 1, some (.o 1 [[.d (.row .own 3 (Rw (GFunc.cells .own) x.2.1.funcs))]])), (.r 129, some (.o 1 [[.d (.row .own 3 (Rw (GFunc.cells .own) x.2.2.1.funcs))]])), (.r 20001344, some (.o 5 [[.mp 0 4 0 0, .sl 10000000 1 0 x.2.2.2.1.args.length, V.int x.2.2.2.1.locals, .d (.row .own 2 (Rw GI2.cells x.2.2.2.1.code)), V.int x.2.2.2.1.most]])), (.r 0, some (.o 4 [[.d (.row .bor 1 (Rw (cI .u8) x.2.2.2.1.s.b)), V.int x.2.2.2.1.s.at0, .d (.p (.int .u64 x.2.2.2.1.s.mix)), V.int x.2.2.2.1.s.size]])), (.r 10000000, some (.o 1 (dd (Rw (cI .i64) x.2.2.2.1.args))))]) (fun x => x.1) (fun x => Yes (spec_l01Src_l03Program.l3 x.1 x.2.1 x.2.2.1 x.2.2.2.1 x.2.2.2.2.1 x.2.2.2.2.2) o3) (_, _, _, _, _, _) ?_ h ?_ ?_
    · exact (by simp [slNL, C.inN, V.inN, V.inNs, V.inNss, inNss_dd, inNs_map_d])
    · simp only [SubL, putSt, lk, lkb, reduceCtorEq, Nat.reduceEqDiff, List.length_set, List.length_replicate]; repeat' (first | apply And.intro | rfl | trivial | (simp only [*]; done))
    rintro ⟨_ | k, a1, a2, a3, a4, a5⟩ h
    · simp only [spec_l01Src_l03Program.l3] at h; exact h.none
    simp only [spec_l01Src_l03Program.l3] at h
)
 | (with_reducible refine here_next (N0 := 30000000) ?_
    skip
    (try (apply gh_conv 20001344; (focus (simp only [putSt, lk, lkb, reduceCtorEq, Nat.reduceEqDiff]; try rfl)); (focus (exact .cons (.cons .same (.cons .same (.cons .same (.cons (.nil (m := .own) (s := 2)) (.cons .same (.nil)))))) .nil))))
    refine nexts_to (_, _, _, _, _, _) (by decide) ?_ (Nat.lt_succ_self _) h ?_
    · exact (by simp [slNL, C.inN, V.inN, V.inNs, V.inNss, inNss_dd, inNs_map_d])
    · simp only [SubL, putSt, lk, lkb, reduceCtorEq, Nat.reduceEqDiff, List.length_set, List.length_replicate]; repeat' (first | apply And.intro | rfl | trivial | (simp only [*]; done)))
 | (with_reducible refine here_loop (c := (.seq (.seq (.region 8 _ _) _) _)) ?_
    skip
    revert h
    with_reducible refine bind_elimY ?_
    intro o2 h hK2
    refine sw_loop (ι := Nat × Gl01Src × GProgram × GProgram × (List Int) × Int) 20000000 (by decide) (fun x : Nat × Gl01Src × GProgram × GProgram × (List Int) × Int => [(.s 0, some (.v (.mp 0 4 0 0))), (.s 2, some (.v (.mp 1 1 0 0))), (.s 3, some (.v (.mp 129 1 0 0))), (.s 4, some (.v (.sl 10000000 1 0 x.2.2.2.2.1.length))), (.s 6, some (.v (V.int x.2.2.2.2.2))), (.r 0, some (.o 4 [[.d (.row .bor 1 (Rw (cI .u8) x.2.1.b)), V.int x.2.1.at0, .d (.p (.int .u64 x.2.1.mix)), V.int x.2.1.size]])), (.r 1, some (.o 1 [[.d (.row .own 3 (Rw (GFunc.cells .own) x.2.2.1.funcs))]])), (.r 129, some (.o 1 [[.d (.row .own 3 (Rw (GFunc.cells .own) x.2.2.2.1.funcs))]])), (.r 10000000, some (.o 1 (dd (Rw (cI .i64) x.2.2.2.2.1))))]) (fun x => x.1) (fun x => Yes (spec_l01Src_l03Program.l2 x.1 x.2.1 x.2.2.1 x.2.2.2.1 x.2.2.2.2.1 x.2.2.2.2.2) o2) (_, _, _, _, _, _) ?_ h ?_ ?_
    · exact (by simp [slNL, C.inN, V.inN, V.inNs, V.inNss, inNss_dd, inNs_map_d])
    · simp only [SubL, putSt, lk, lkb, reduceCtorEq, Nat.reduceEqDiff, List.length_set, List.length_replicate]; repeat' (first | apply And.intro | rfl | trivial | (simp only [*]; done))
    rintro ⟨_ | k, a1, a2, a3, a4, a5⟩ h
    · simp only [spec_l01Src_l03Program.l2] at h; exact h.none
    simp only [spec_l01Src_l03Program.l2] at h
)
 | (with_reducible refine here_next (N0 := 20000000) ?_
    skip
    refine nexts_to (_, _, _, _, _, _) (by decide) ?_ (Nat.lt_succ_self _) h ?_
    · exact (by simp [slNL, C.inN, V.inN, V.inNs, V.inNss, inNss_dd, inNs_map_d])
    · simp only [SubL, putSt, lk, lkb, reduceCtorEq, Nat.reduceEqDiff, List.length_set, List.length_replicate]; repeat' (first | apply And.intro | rfl | trivial | (simp only [*]; done)))
 | (with_reducible refine here_loop (c := (.seq (.seq (.region 4 _ _) _) _)) ?_
    skip
    revert h
    with_reducible refine bind_elimY ?_
    intro o1 h hK1
    refine sw_gh ?_
    refine gh_resSlot 4 ?_
    simp only [rxb, Nat.reduceAdd, Nat.reduceLeDiff, resSlotP, nameSlotP, Prog.wp, Prog.wp_bind, Prog.bind, Prog.ofO, putSt, lk, lkb, reduceCtorEq, Nat.reduceEqDiff, resV, resV.go, resV.gol, nameAll, nameP, outP, outT, cntT, V.lin, D.lin, *]
    (try (apply gh_conv 1; (focus (simp only [putSt, lk, lkb, reduceCtorEq, Nat.reduceEqDiff]; try rfl)); (focus (apply All2.cons; (focus (apply All2.cons; (focus (first | exact Conv1.nil (m := .own) (s := 3) | exact .same)); exact .nil)); exact .nil))))
    (try (apply gh_conv 129; (focus (simp only [putSt, lk, lkb, reduceCtorEq, Nat.reduceEqDiff]; try rfl)); (focus (apply All2.cons; (focus (apply All2.cons; (focus (first | exact Conv1.nil (m := .own) (s := 3) | exact .same)); exact .nil)); exact .nil))))
    refine gh_sw ?_
    refine sw_loop (ι := Nat × Gl01Src × GProgram × GProgram × (List Int) × Int) 10000000 (by decide) (fun x : Nat × Gl01Src × GProgram × GProgram × (List Int) × Int => [(.s 0, some (.v (.mp 0 4 0 0))), (.s 2, some (.v (.mp 1 1 0 0))), (.s 3, some (.v (.mp 129 1 0 0))), (.s 4, some (.v (.d (.row .own 1 (Rw (cI .i64) x.2.2.2.2.1))))), (.s 5, some (.v (V.int x.2.2.2.2.2))), (.r 0, some (.o 4 [[.d (.row .bor 1 (Rw (cI .u8) x.2.1.b)), V.int x.2.1.at0, .d (.p (.int .u64 x.2.1.mix)), V.int x.2.1.size]])), (.r 1, some (.o 1 [[.d (.row .own 3 (Rw (GFunc.cells .own) x.2.2.1.funcs))]])), (.r 129, some (.o 1 [[.d (.row .own 3 (Rw (GFunc.cells .own) x.2.2.2.1.funcs))]]))]) (fun x => x.1) (fun x => Yes (spec_l01Src_l03Program.l1 x.1 x.2.1 x.2.2.1 x.2.2.2.1 x.2.2.2.2.1 x.2.2.2.2.2) o1) (_, _, _, _, _, _) ?_ h ?_ ?_
    · exact (by simp [slNL, C.inN, V.inN, V.inNs, V.inNss, inNss_dd, inNs_map_d])
    · simp only [SubL, putSt, lk, lkb, reduceCtorEq, Nat.reduceEqDiff, List.length_set, List.length_replicate]; repeat' (first | apply And.intro | rfl | trivial | (simp only [*]; done))
    rintro ⟨_ | k, a1, a2, a3, a4, a5⟩ h
    · simp only [spec_l01Src_l03Program.l1] at h; exact h.none
    simp only [spec_l01Src_l03Program.l1] at h
    refine sw_gh ?_
    refine gh_nameSlot 4 ?_
    simp only [rxb, Nat.reduceAdd, Nat.reduceLeDiff, resSlotP, nameSlotP, Prog.wp, Prog.wp_bind, Prog.bind, Prog.ofO, putSt, lk, lkb, reduceCtorEq, Nat.reduceEqDiff, resV, resV.go, resV.gol, nameAll, nameP, outP, outT, cntT, V.lin, D.lin, Nat.reduceAdd]
    refine gh_sw ?_
)
 | (with_reducible refine here_next (N0 := 10000000) ?_
    skip
    refine gh_resSlot 4 ?_
    simp only [rxb, Nat.reduceAdd, Nat.reduceLeDiff, resSlotP, nameSlotP, Prog.wp, Prog.wp_bind, Prog.bind, Prog.ofO, putSt, lk, lkb, reduceCtorEq, Nat.reduceEqDiff, resV, resV.go, resV.gol, nameAll, nameP, outP, outT, cntT, V.lin, D.lin, *]
    (try (apply gh_conv 1; (focus (simp only [putSt, lk, lkb, reduceCtorEq, Nat.reduceEqDiff]; try rfl)); (focus (apply All2.cons; (focus (apply All2.cons; (focus (first | exact Conv1.nil (m := .own) (s := 3) | exact .same)); exact .nil)); exact .nil))))
    (try (apply gh_conv 129; (focus (simp only [putSt, lk, lkb, reduceCtorEq, Nat.reduceEqDiff]; try rfl)); (focus (apply All2.cons; (focus (apply All2.cons; (focus (first | exact Conv1.nil (m := .own) (s := 3) | exact .same)); exact .nil)); exact .nil))))
    refine nexts_to (_, _, _, _, _, _) (by decide) ?_ (Nat.lt_succ_self _) h ?_
    · exact (by simp [slNL, C.inN, V.inN, V.inNs, V.inNss, inNss_dd, inNs_map_d])
    · simp only [SubL, putSt, lk, lkb, reduceCtorEq, Nat.reduceEqDiff, List.length_set, List.length_replicate]; repeat' (first | apply And.intro | rfl | trivial | (simp only [*]; done)))
 | with_reducible refine sw_seq ?_
 | with_reducible refine seqQ_ret ?_
 | with_reducible refine seqQ_exit ?_
 | (with_reducible refine here_retw ?_
    with_reducible apply gh_resSl 1 0
    · simp only [putSt, lk, lkb, reduceCtorEq, Nat.reduceEqDiff]; rfl
    · rfl
    simp only [rxb, Nat.reduceAdd, Nat.reduceLeDiff, resSlotP, nameSlotP, Prog.wp, Prog.wp_bind, Prog.bind, Prog.ofO, putSt, lk, lkb, reduceCtorEq, Nat.reduceEqDiff, resV, resV.go, resV.gol, nameAll, nameP, outP, outT, cntT, V.lin, D.lin, *])
 | (with_reducible refine here_retw ?_
    with_reducible apply gh_frz 1 0
    · simp only [putSt, lk, lkb, reduceCtorEq, Nat.reduceEqDiff]; rfl
    · rfl
    · exact .all
    simp only [List.set_cons_zero, List.set_cons_succ, Md.fz, GI2_frz, GFunc_frz, GProgram_frz, Gl01Src_frz, LcIi64_frz])
 | ((with_reducible refine wp_ite ?_ ?_)
    all_goals (intro hc; (try (simp only [Bool.not_eq_true, Bool.not_eq_false] at hc)); simp only [hc]))
 | (with_reducible apply regW_skip
    · simp only [dstOk, Nat.reduceLT]
    · rfl
    · simp only [putSt, lk, lkb, reduceCtorEq, Nat.reduceEqDiff]; done)
 | (with_reducible apply regW_yesN
    · simp only [dstOk, Nat.reduceLT]
    · rfl
    · simp only [putSt, lk, lkb, reduceCtorEq, Nat.reduceEqDiff]; done)
 | (with_reducible apply regW_no
    · simp only [dstOk, Nat.reduceLT]
    · rfl
    · simp only [putSt, lk, lkb, reduceCtorEq, Nat.reduceEqDiff, Bool.not_true, Bool.not_false]; done)
 | (with_reducible apply regW_guardN
    · simp only [dstOk, Nat.reduceLT]
    · rfl
    · simp only [putSt, lk, lkb, reduceCtorEq, Nat.reduceEqDiff]; rfl
    all_goals (intro hc; (try (simp only [Bool.not_true, Bool.not_false] at hc))))
 | (with_reducible apply sw_cond
    · simp only [putSt, lk, lkb, reduceCtorEq, Nat.reduceEqDiff]; rfl
    all_goals (intro hc; try (cases hc; done)))
 | ((first
     | ((with_reducible refine gh_ret ?_)
        revert h
        with_reducible refine some_elim ?_
        rintro rfl)
     | (with_reducible refine here_call ?_
        revert h
        with_reducible refine bind_elim ?_
        intro t ht h
        (try (have hkp := keep_n ht))
        (first
          | (refine call_obj [0] (c_spec_l01Src_one ht) (by decide) ?_ ?_
             · first | exact .inl rfl | (refine .inr ⟨?_, ?_⟩; (focus (first | rfl | (simp only [V.nb, V.nbL, D.nb, D.nbL, Md.nb, nbb, GI2_nb, GFunc_nb, GProgram_nb, Gl01Src_nb, LcIi64_nb]; done))); (focus (simp [C.nb, V.nbLL, V.nbL, V.nb, D.nb]; done)))
             simp only [argsP, argP, V.namesOf, V.namesOfL, List.mem_append, List.append_nil, List.mem_cons, or_false, or_true, true_or, objsP, C.ren, V.ren, V.renL, renLL_dd, V.renLL, List.getD_cons_zero, List.getD_cons_succ, C.o.injEq, hyb, lendAL, lendA, undd.unddR, D.lendL, D.lend, Md.lend, GI2_lend, GFunc_lend, GProgram_lend, Gl01Src_lend, LcIi64_lend, putSt, lk, lkb, reduceCtorEq, Nat.reduceEqDiff, Prog.wp, Prog.wp_bind, Prog.bind, Prog.ofO, List.take_of_length_le, *])
          | (refine call_obj [0] (c_spec_l01Src_n ht) (by decide) ?_ ?_
             · first | exact .inl rfl | (refine .inr ⟨?_, ?_⟩; (focus (first | rfl | (simp only [V.nb, V.nbL, D.nb, D.nbL, Md.nb, nbb, GI2_nb, GFunc_nb, GProgram_nb, Gl01Src_nb, LcIi64_nb]; done))); (focus (simp [C.nb, V.nbLL, V.nbL, V.nb, D.nb]; done)))
             simp only [argsP, argP, V.namesOf, V.namesOfL, List.mem_append, List.append_nil, List.mem_cons, or_false, or_true, true_or, objsP, C.ren, V.ren, V.renL, renLL_dd, V.renLL, List.getD_cons_zero, List.getD_cons_succ, C.o.injEq, hyb, lendAL, lendA, undd.unddR, D.lendL, D.lend, Md.lend, GI2_lend, GFunc_lend, GProgram_lend, Gl01Src_lend, LcIi64_lend, putSt, lk, lkb, reduceCtorEq, Nat.reduceEqDiff, Prog.wp, Prog.wp_bind, Prog.bind, Prog.ofO, List.take_of_length_le, *])
          | (refine call_dataE (c_spec_l01Min ht) ?_ rfl ?_
             · first | rfl | (simp; done))
          | (refine call_obj [20001344, 0, 10000000] (c_spec_l03Gen_stmt ht) (by decide) ?_ ?_
             · first | exact .inl rfl | (refine .inr ⟨?_, ?_⟩; (focus (first | rfl | (simp only [V.nb, V.nbL, D.nb, D.nbL, Md.nb, nbb, GI2_nb, GFunc_nb, GProgram_nb, Gl01Src_nb, LcIi64_nb]; done))); (focus (simp [C.nb, V.nbLL, V.nbL, V.nb, D.nb]; done)))
             simp only [argsP, argP, V.namesOf, V.namesOfL, List.mem_append, List.append_nil, List.mem_cons, or_false, or_true, true_or, objsP, C.ren, V.ren, V.renL, renLL_dd, V.renLL, List.getD_cons_zero, List.getD_cons_succ, C.o.injEq, hyb, lendAL, lendA, undd.unddR, D.lendL, D.lend, Md.lend, GI2_lend, GFunc_lend, GProgram_lend, Gl01Src_lend, LcIi64_lend, putSt, lk, lkb, reduceCtorEq, Nat.reduceEqDiff, Prog.wp, Prog.wp_bind, Prog.bind, Prog.ofO, List.take_of_length_le, *])
          | (refine call_obj [20001344, 0, 10000000] (c_spec_l03Gen_expr ht) (by decide) ?_ ?_
             · first | exact .inl rfl | (refine .inr ⟨?_, ?_⟩; (focus (first | rfl | (simp only [V.nb, V.nbL, D.nb, D.nbL, Md.nb, nbb, GI2_nb, GFunc_nb, GProgram_nb, Gl01Src_nb, LcIi64_nb]; done))); (focus (simp [C.nb, V.nbLL, V.nbL, V.nb, D.nb]; done)))
             simp only [argsP, argP, V.namesOf, V.namesOfL, List.mem_append, List.append_nil, List.mem_cons, or_false, or_true, true_or, objsP, C.ren, V.ren, V.renL, renLL_dd, V.renLL, List.getD_cons_zero, List.getD_cons_succ, C.o.injEq, hyb, lendAL, lendA, undd.unddR, D.lendL, D.lend, Md.lend, GI2_lend, GFunc_lend, GProgram_lend, Gl01Src_lend, LcIi64_lend, putSt, lk, lkb, reduceCtorEq, Nat.reduceEqDiff, Prog.wp, Prog.wp_bind, Prog.bind, Prog.ofO, List.take_of_length_le, *])
          | (refine call_obj [20001344, 0, 10000000] (c_spec_l03Gen_put ht) (by decide) ?_ ?_
             · first | exact .inl rfl | (refine .inr ⟨?_, ?_⟩; (focus (first | rfl | (simp only [V.nb, V.nbL, D.nb, D.nbL, Md.nb, nbb, GI2_nb, GFunc_nb, GProgram_nb, Gl01Src_nb, LcIi64_nb]; done))); (focus (simp [C.nb, V.nbLL, V.nbL, V.nb, D.nb]; done)))
             simp only [argsP, argP, V.namesOf, V.namesOfL, List.mem_append, List.append_nil, List.mem_cons, or_false, or_true, true_or, objsP, C.ren, V.ren, V.renL, renLL_dd, V.renLL, List.getD_cons_zero, List.getD_cons_succ, C.o.injEq, hyb, lendAL, lendA, undd.unddR, D.lendL, D.lend, Md.lend, GI2_lend, GFunc_lend, GProgram_lend, Gl01Src_lend, LcIi64_lend, putSt, lk, lkb, reduceCtorEq, Nat.reduceEqDiff, Prog.wp, Prog.wp_bind, Prog.bind, Prog.ofO, List.take_of_length_le, *])
          | (refine call_obj [0, 129] (c_spec_l01Src_l03Spoil ht) (by decide) ?_ ?_
             · first | exact .inl rfl | (refine .inr ⟨?_, ?_⟩; (focus (first | rfl | (simp only [V.nb, V.nbL, D.nb, D.nbL, Md.nb, nbb, GI2_nb, GFunc_nb, GProgram_nb, Gl01Src_nb, LcIi64_nb]; done))); (focus (simp [C.nb, V.nbLL, V.nbL, V.nb, D.nb]; done)))
             simp only [argsP, argP, V.namesOf, V.namesOfL, List.mem_append, List.append_nil, List.mem_cons, or_false, or_true, true_or, objsP, C.ren, V.ren, V.renL, renLL_dd, V.renLL, List.getD_cons_zero, List.getD_cons_succ, C.o.injEq, hyb, lendAL, lendA, undd.unddR, D.lendL, D.lend, Md.lend, GI2_lend, GFunc_lend, GProgram_lend, Gl01Src_lend, LcIi64_lend, putSt, lk, lkb, reduceCtorEq, Nat.reduceEqDiff, Prog.wp, Prog.wp_bind, Prog.bind, Prog.ofO, List.take_of_length_le, *])))
     | (with_reducible apply regD_opK
        · simp only [dstOk, Nat.reduceLT]
        · simp only [Nat.reduceAdd]; rfl
        intro k hk)
     | (with_reducible apply regW_opK
        · simp only [dstOk, Nat.reduceLT]
        · simp only [Nat.reduceAdd]; rfl
        intro k hk)
     | skip)
    simp only [RetW, bn, lkb, evb, opC, opP, fetchN, fetchP, fetchAll, fetchO, Prog.bind, Prog.wp, Prog.wp_bind, lk, nameP, nameAll, Value.oneCell', putSt, stepP, putP, reduceCtorEq, V.lin, V.linL, D.lin, isNil, binP, unP, BinOp.isShift, Prog.ofO, Nat.reduceAdd, Nat.reduceMul, Nat.reduceSub, Nat.reduceLT, Nat.reduceLeDiff, Nat.reduceEqDiff, ite_true, ite_false, fieldAddrP, fieldP, indexAddrP, loadP, storeP, boxP, allocP, cellsP, asVal, setSeg, outP, outT, cntT, TyK.field, TyK.agg, zeroRow, V.ren, V.renL, forall_eq_or_imp, forall_const, minmaxP, lenP, lenOf, lenStr, V.asInt, decide_true, decide_false, sliceP, boundP, makeSliceP, convertP, appendP, rowsOfP, ontoP, sizeFits, V.rowSize, TyK.src, resV, resV.go, resV.gol, retP, retOne, retAll, resTo, objsAre, Option.map_eq_map, Function.const_apply, Int.reduceNeg, Int.reduceToNat, ty2, ty3, ty5, ty26, ty28, ty30, ty37, ty41, ty63, ty65, ty107, ty113, ty139, ty140, ty143, ty147, GFunc.cells, GI2.cells, GProgram.cells, Gl01Src.cells, cI, cB, cS, cL, GI2_e, GFunc_e, GProgram_e, Gl01Src_e, LcIi64_e, buildP, buildSliceP, putParts, structPlaces, chunks, List.replicate, List.flatten_nil, List.flatten_cons, Option.bind_some, bb, GI2_b, GFunc_b, GProgram_b, Gl01Src_b, LcIi64_b, nilEqP, ne_eq, not_false_eq_true, not_true_eq_false, GFunc_fset, GFunc_fone, GFunc_fcons, GFunc_fdone, GFunc_fdcons, GProgram_fset, GProgram_fone, GProgram_fcons, GProgram_fdone, GProgram_fdcons, Gl01Src_fset, Gl01Src_fone, Gl01Src_fcons, Gl01Src_fdone, Gl01Src_fdcons, *]
    try (refine hk.use _ _ _ _ ?_; clear hk k))
 | fail)
  all_goals (try rfl)
  all_goals (try (simp; done))
  all_goals (try (simp_all; done))
def spec_l04One (k : Nat) (p0 : (List Int)) : Option (GProgram × Int) :=
  (spec_l01Source k p0).bind fun t1 => (spec_l01Src_l03Program k t1).bind fun t2 => (spec_l01Src_one k t2.2 20).bind fun t3 => cond t3.1 ((spec_l01Src_n k t3.2 9).bind fun t4 => some (t2.1, (IntKind.i64.wrap (t4.1 - 1)))) ((spec_l01Src_n k t3.2 ((t2.1.funcs.length : Int))).bind fun t5 => some (t2.1, t5.1))
theorem c_spec_l04One {k : Nat} {p0 : (List Int)} {r : GProgram × Int} (h : spec_l04One k p0 = some r) : Con Try.prog 44 [.d (.row .bor 1 (Rw (cI .u8) p0))] [] (.tup [.agg [.d (.row .frz 3 (Rw (GFunc.cells .frz) r.1.funcs))], V.int r.2]) [] := by
  refine con_of_sw Try.func44 rfl Try.call44 (by simp [Try.ntmps44]) (by simp [V.inNs, V.inN]) (by simp [C.inN, V.inNss, V.inNs, V.inN, inNss_dd]) (by simp [V.inNs, V.inN]) (by simp [C.inN, V.inNss, V.inNs, V.inN, inNss_dd]) rfl ?_
  rw [Try.ntmps44, Try.results44]
  unfold spec_l04One at h
  replace h := Yes.mk h
  simp only [entryS, entryO, Nat.reduceAdd, List.length_nil, List.length_cons]
  repeat' (first
 | (with_reducible (first | refine sw_reg ?_ | refine sw_ret ?_ | refine sw_skip ?_ | refine sw_block ?_ | refine sw_exit ?_ | refine seqQ_normal ?_ | refine blockQ_normal ?_ | refine blockQ_ret ?_ | refine blockQ_this ?_ | refine blockQ_other (by decide) ?_ | refine regW_nil ?_ | refine sw_draw mixed ?_ | refine retQ_ret ?_ | refine retQ_normal ?_))
 | (with_reducible refine regD_nil ?_
    refine ⟨by kernel_rfl, ?_⟩)
 | (revert h; (first | ((with_reducible refine idx_elim ?_); intro m hm1 hm2 hm3 h; (try (simp only [Int.reduceToNat] at hm3)); (try (revert hm3; (with_reducible apply same_elim); (focus (with_reducible assumption)); rintro rfl)); (try (simp only [List.length_set, List.length_cons, List.length_nil, List.length_replicate, Nat.reduceAdd, Int.cast_ofNat_Int, Nat.zero_add, List.length_append] at hm2))) | (with_reducible refine sidx_elim ?_; intro m hm1 hm3 h) | (with_reducible refine gd_elim ?_; intro hg h; try (have hg2 := hg.2; have hg := hg.1; (try (simp only [Nat.reduceLeDiff] at hg2)); (try (revert hg2; (with_reducible refine toNat_elim hg ?_); intro hg2 hg4)); try (have hg3 := hg2.2; have hg2 := hg2.1; (try (simp only [Nat.reduceLeDiff] at hg3))))) | (with_reducible refine condt_elim ?_ ?_; (focus (with_reducible assumption)); intro h) | (with_reducible refine condf_elim ?_ ?_; (focus (with_reducible assumption)); intro h)))
 | with_reducible refine sw_seq ?_
 | with_reducible refine seqQ_ret ?_
 | with_reducible refine seqQ_exit ?_
 | ((with_reducible refine wp_ite ?_ ?_)
    all_goals (intro hc; (try (simp only [Bool.not_eq_true, Bool.not_eq_false] at hc)); simp only [hc]))
 | (with_reducible apply regW_skip
    · simp only [dstOk, Nat.reduceLT]
    · rfl
    · simp only [putSt, lk, lkb, reduceCtorEq, Nat.reduceEqDiff]; done)
 | (with_reducible apply regW_yesN
    · simp only [dstOk, Nat.reduceLT]
    · rfl
    · simp only [putSt, lk, lkb, reduceCtorEq, Nat.reduceEqDiff]; done)
 | (with_reducible apply regW_no
    · simp only [dstOk, Nat.reduceLT]
    · rfl
    · simp only [putSt, lk, lkb, reduceCtorEq, Nat.reduceEqDiff, Bool.not_true, Bool.not_false]; done)
 | (with_reducible apply regW_guardN
    · simp only [dstOk, Nat.reduceLT]
    · rfl
    · simp only [putSt, lk, lkb, reduceCtorEq, Nat.reduceEqDiff]; rfl
    all_goals (intro hc; (try (simp only [Bool.not_true, Bool.not_false] at hc))))
 | (with_reducible apply sw_cond
    · simp only [putSt, lk, lkb, reduceCtorEq, Nat.reduceEqDiff]; rfl
    all_goals (intro hc; try (cases hc; done)))
 | ((first
     | ((with_reducible refine gh_ret ?_)
        revert h
        with_reducible refine some_elim ?_
        rintro rfl)
     | (with_reducible refine here_call ?_
        revert h
        with_reducible refine bind_elim ?_
        intro t ht h
        (first
          | (refine call_dataE (c_spec_l01Source ht) ?_ rfl ?_
             · first | rfl | (simp; done))
          | (refine call_obj [192] (c_spec_l01Src_l03Program ht) (by decide) ?_ ?_
             · first | exact .inl rfl | (refine .inr ⟨?_, ?_⟩; (focus (first | rfl | (simp only [V.nb, V.nbL, D.nb, D.nbL, Md.nb, nbb, GI2_nb, GFunc_nb, GProgram_nb, Gl01Src_nb]; done))); (focus (simp [C.nb, V.nbLL, V.nbL, V.nb, D.nb]; done)))
             simp only [argsP, argP, V.namesOf, V.namesOfL, List.mem_append, List.append_nil, List.mem_cons, or_false, or_true, true_or, objsP, C.ren, V.ren, V.renL, renLL_dd, V.renLL, List.getD_cons_zero, List.getD_cons_succ, C.o.injEq, hyb, lendAL, lendA, undd.unddR, D.lendL, D.lend, Md.lend, GI2_lend, GFunc_lend, GProgram_lend, Gl01Src_lend, putSt, lk, lkb, reduceCtorEq, Nat.reduceEqDiff, Prog.wp, Prog.wp_bind, Prog.bind, Prog.ofO, List.take_of_length_le, *])
          | (refine call_obj [192] (c_spec_l01Src_one ht) (by decide) ?_ ?_
             · first | exact .inl rfl | (refine .inr ⟨?_, ?_⟩; (focus (first | rfl | (simp only [V.nb, V.nbL, D.nb, D.nbL, Md.nb, nbb, GI2_nb, GFunc_nb, GProgram_nb, Gl01Src_nb]; done))); (focus (simp [C.nb, V.nbLL, V.nbL, V.nb, D.nb]; done)))
             simp only [argsP, argP, V.namesOf, V.namesOfL, List.mem_append, List.append_nil, List.mem_cons, or_false, or_true, true_or, objsP, C.ren, V.ren, V.renL, renLL_dd, V.renLL, List.getD_cons_zero, List.getD_cons_succ, C.o.injEq, hyb, lendAL, lendA, undd.unddR, D.lendL, D.lend, Md.lend, GI2_lend, GFunc_lend, GProgram_lend, Gl01Src_lend, putSt, lk, lkb, reduceCtorEq, Nat.reduceEqDiff, Prog.wp, Prog.wp_bind, Prog.bind, Prog.ofO, List.take_of_length_le, *])
          | (refine call_obj [192] (c_spec_l01Src_n ht) (by decide) ?_ ?_
             · first | exact .inl rfl | (refine .inr ⟨?_, ?_⟩; (focus (first | rfl | (simp only [V.nb, V.nbL, D.nb, D.nbL, Md.nb, nbb, GI2_nb, GFunc_nb, GProgram_nb, Gl01Src_nb]; done))); (focus (simp [C.nb, V.nbLL, V.nbL, V.nb, D.nb]; done)))
             simp only [argsP, argP, V.namesOf, V.namesOfL, List.mem_append, List.append_nil, List.mem_cons, or_false, or_true, true_or, objsP, C.ren, V.ren, V.renL, renLL_dd, V.renLL, List.getD_cons_zero, List.getD_cons_succ, C.o.injEq, hyb, lendAL, lendA, undd.unddR, D.lendL, D.lend, Md.lend, GI2_lend, GFunc_lend, GProgram_lend, Gl01Src_lend, putSt, lk, lkb, reduceCtorEq, Nat.reduceEqDiff, Prog.wp, Prog.wp_bind, Prog.bind, Prog.ofO, List.take_of_length_le, *])))
     | (with_reducible apply regD_opK
        · simp only [dstOk, Nat.reduceLT]
        · simp only [Nat.reduceAdd]; rfl
        intro k hk)
     | (with_reducible apply regW_opK
        · simp only [dstOk, Nat.reduceLT]
        · simp only [Nat.reduceAdd]; rfl
        intro k hk)
     | skip)
    simp only [RetW, bn, lkb, evb, opC, opP, fetchN, fetchP, fetchAll, fetchO, Prog.bind, Prog.wp, Prog.wp_bind, lk, nameP, nameAll, Value.oneCell', putSt, stepP, putP, reduceCtorEq, V.lin, V.linL, D.lin, isNil, binP, unP, BinOp.isShift, Prog.ofO, Nat.reduceAdd, Nat.reduceMul, Nat.reduceSub, Nat.reduceLT, Nat.reduceLeDiff, Nat.reduceEqDiff, ite_true, ite_false, fieldAddrP, fieldP, indexAddrP, loadP, storeP, boxP, allocP, cellsP, asVal, setSeg, outP, outT, cntT, TyK.field, TyK.agg, zeroRow, V.ren, V.renL, forall_eq_or_imp, forall_const, minmaxP, lenP, lenOf, lenStr, V.asInt, decide_true, decide_false, sliceP, boundP, makeSliceP, convertP, appendP, rowsOfP, ontoP, sizeFits, V.rowSize, TyK.src, resV, resV.go, resV.gol, retP, retOne, retAll, resTo, objsAre, Option.map_eq_map, Function.const_apply, Int.reduceNeg, Int.reduceToNat, ty2, ty3, ty5, ty28, ty30, ty37, ty41, ty63, ty65, ty107, ty113, ty139, GFunc.cells, GI2.cells, GProgram.cells, Gl01Src.cells, cI, cB, cS, cL, GI2_e, GFunc_e, GProgram_e, Gl01Src_e, *]
    try (refine hk.use _ _ _ _ ?_; clear hk k))
 | fail)
  all_goals (try rfl)
  all_goals (try (simp; done))
  all_goals (try (simp_all; done))
def spec_DrawDoms (k : Nat) (p0 : (List Int)) : Option (GProgram × Int) :=
  (spec_l04One k p0).bind fun t1 => some (t1.1, t1.2)
def spec_Heights (k : Nat) (p0 : GProgram) (p1 : Int) : Option ((List Int)) :=
  (spec_l04Is k p0 p1).bind fun t1 => cond ((!t1)) (some []) ((spec_l04Heights k p0 p1).bind fun t2 => some t2.1)
end Go.Proofs.Ytdlaplgofgklnaa
namespace Go.Proofs.Ytdlaplgofgklnaa
open Go.Proofs Go.Proofs.Ytdlaplgofgklnaa.L
set_option maxHeartbeats 8000000
set_option linter.unusedSimpArgs false
set_option linter.unusedVariables false
set_option maxRecDepth 100000
def laws_FnDoms.a3 (k : Nat) (a1 : (List GFunc)) (a2 : (List Int)) (a3 : (List Int)) (a4 : (List Int)) (a5 : Int) (a6 : Int) : Option ((Bool) ⊕ ((List GFunc) × (List Int) × (List Int) × (List Int) × Int × Int)) :=
  (idx a2 a6).bind fun m7 => cond ((((iand .i64 m7 1)) == 0)) (some (.inl (false))) (gd (0 ≤ ((IntKind.u64.wrap a6))) (cond ((((iand .i64 ((ishr .i64 m7 ((IntKind.u64.wrap a6)))) 1)) == 0)) (some (.inl (false))) (cond ((a6 == 0)) (cond ((m7 != 1)) (some (.inl (false))) (some (.inr (a1, a2, a3, a4, a5, a6)))) (some (.inr (a1, a2, a3, a4, a5, a6))))))
def laws_FnDoms.a5 (k : Nat) (a1 : (List GFunc)) (a2 : (List Int)) (a3 : (List Int)) (a4 : (List Int)) (a5 : Int) (a6 : Int) (a7 : Int) (a8 : Int) : Option ((Bool) ⊕ ((List GFunc) × (List Int) × (List Int) × (List Int) × Int × Int × Int × Int)) :=
  cond ((decide (a8 > 0))) ((idx a4 ((IntKind.i64.wrap (a8 - 1)))).bind fun m8 => (idx a4 a8).bind fun m9 => cond ((decide (m8 ≥ m9))) (some (.inl (false))) (cond ((decide (m9 < 0))) (some (.inl (false))) (cond ((decide (m9 ≥ ((a3.length : Int))))) (some (.inl (false))) ((idx a3 m9).bind fun m10 => cond ((decide (m10 < 0))) (some (.inl (false))) (some (.inr (a1, a2, a3, a4, a5, a6, a7, a8))))))) ((idx a4 a8).bind fun m11 => cond ((decide (m11 < 0))) (some (.inl (false))) (cond ((decide (m11 ≥ ((a3.length : Int))))) (some (.inl (false))) ((idx a3 m11).bind fun m12 => cond ((decide (m12 < 0))) (some (.inl (false))) (some (.inr (a1, a2, a3, a4, a5, a6, a7, a8))))))
def laws_FnDoms.l4 : Nat → (List GFunc) → (List Int) → (List Int) → (List Int) → Int → Int → Int → Int → Option ((Bool) ⊕ ((List GFunc) × (List Int) × (List Int) × (List Int) × Int × Int × Int))
  | 0, _, _, _, _, _, _, _, _ => none
  | k + 1, a1, a2, a3, a4, a5, a6, a7, a8 => cond ((decide (a8 < ((a4.length : Int))))) ((laws_FnDoms.a5 k a1 a2 a3 a4 a5 a6 a7 a8).bind fun o5 => Sum.elim (fun o5l => some (.inl (o5l))) (fun o5r => (idx o5r.2.2.2.1 o5r.2.2.2.2.2.2.2).bind fun m13 => (idx o5r.2.1 m13).bind fun m14 => laws_FnDoms.l4 k o5r.1 o5r.2.1 o5r.2.2.1 o5r.2.2.2.1 o5r.2.2.2.2.1 o5r.2.2.2.2.2.1 ((iand .i64 o5r.2.2.2.2.2.2.1 m14)) ((IntKind.i64.wrap (o5r.2.2.2.2.2.2.2 + 1)))) o5) (some (.inr (a1, a2, a3, a4, a5, a6, a7)))
def laws_FnDoms.a2 (k : Nat) (a1 : (List GFunc)) (a2 : (List Int)) (a3 : (List Int)) (a4 : Int) (a5 : Int) : Option ((Bool) ⊕ ((List GFunc) × (List Int) × (List Int) × Int × Int)) :=
  (idx a3 a5).bind fun m4 => cond ((decide (m4 < 0))) ((idx a2 a5).bind fun m5 => cond ((m5 != 0)) (some (.inl (false))) (some (.inr (a1, a2, a3, a4, a5)))) ((impl_Preds k ((⟨a1⟩ : GProgram)) a4 a5).bind fun t6 => (laws_FnDoms.a3 k a1 a2 a3 t6 a4 a5).bind fun o3 => Sum.elim (fun o3l => some (.inl (o3l))) (fun o3r => (laws_FnDoms.l4 k o3r.1 o3r.2.1 o3r.2.2.1 o3r.2.2.2.1 o3r.2.2.2.2.1 o3r.2.2.2.2.2 ((-1)) 0).bind fun o4 => Sum.elim (fun o4l => some (.inl (o4l))) (fun o4r => cond ((decide (o4r.2.2.2.2.2.1 > 0))) (cond ((((o4r.2.2.2.1.length : Int)) == 0)) (some (.inl (false))) (gd (0 ≤ ((IntKind.u64.wrap o4r.2.2.2.2.2.1))) ((idx o4r.2.1 o4r.2.2.2.2.2.1).bind fun m15 => cond ((((ior .i64 o4r.2.2.2.2.2.2 ((ishl .i64 1 ((IntKind.u64.wrap o4r.2.2.2.2.2.1)))))) != m15)) (some (.inl (false))) (some (.inr (o4r.1, o4r.2.1, o4r.2.2.1, o4r.2.2.2.2.1, o4r.2.2.2.2.2.1)))))) (some (.inr (o4r.1, o4r.2.1, o4r.2.2.1, o4r.2.2.2.2.1, o4r.2.2.2.2.2.1)))) o4) o3)
def laws_FnDoms.l1 : Nat → (List GFunc) → (List Int) → (List Int) → Int → Int → Option ((Bool) ⊕ (Unit))
  | 0, _, _, _, _, _ => none
  | k + 1, a1, a2, a3, a4, a5 => cond ((decide (a5 < ((a3.length : Int))))) ((laws_FnDoms.a2 k a1 a2 a3 a4 a5).bind fun o2 => Sum.elim (fun o2l => some (.inl (o2l))) (fun o2r => laws_FnDoms.l1 k o2r.1 o2r.2.1 o2r.2.2.1 o2r.2.2.2.1 ((IntKind.i64.wrap (o2r.2.2.2.2 + 1)))) o2) (some (.inr ()))
def laws_FnDoms (k : Nat) (p0 : (List Int)) : Option (Bool) :=
  cond ((decide (((p0.length : Int)) > 1048576))) (some true) ((spec_DrawDoms k p0).bind fun t1 => (impl_Doms k t1.1 t1.2).bind fun t2 => (spec_Heights k t1.1 t1.2).bind fun t3 => cond ((((t2.length : Int)) != ((t3.length : Int)))) (some false) ((laws_FnDoms.l1 k t1.1.funcs t2 t3 t1.2 0).bind fun o1 => Sum.elim (fun o1l => some o1l) (fun o1r => some true) o1))
end Go.Proofs.Ytdlaplgofgklnaa
namespace Go.Proofs.Ytdlaplgofgklnaa
open Go.Proofs Go.Proofs.Ytdlaplgofgklnaa.L
set_option maxHeartbeats 1000000
set_option linter.unusedSimpArgs false
set_option linter.unusedVariables false
set_option maxRecDepth 100000
def spec_DrawLoops (k : Nat) (p0 : (List Int)) : Option (GProgram × Int) :=
  (spec_l04One k p0).bind fun t1 => some (t1.1, t1.2)
theorem c_spec_DrawLoops {k : Nat} {p0 : (List Int)} {r : GProgram × Int} (h : spec_DrawLoops k p0 = some r) : Con Try.prog 27 [.d (.row .bor 1 (Rw (cI .u8) p0))] [] (.tup [.agg [.d (.row .frz 3 (Rw (GFunc.cells .frz) r.1.funcs))], V.int r.2]) [] := by
  refine con_of_sw Try.func27 rfl Try.call27 (by simp [Try.ntmps27]) (by simp [V.inNs, V.inN]) (by simp [C.inN, V.inNss, V.inNs, V.inN, inNss_dd]) (by simp [V.inNs, V.inN]) (by simp [C.inN, V.inNss, V.inNs, V.inN, inNss_dd]) rfl ?_
  rw [Try.ntmps27, Try.results27]
  unfold spec_DrawLoops at h
  replace h := Yes.mk h
  simp only [entryS, entryO, Nat.reduceAdd, List.length_nil, List.length_cons]
  repeat' (first
 | (with_reducible (first | refine sw_reg ?_ | refine sw_ret ?_ | refine sw_skip ?_ | refine sw_block ?_ | refine sw_exit ?_ | refine seqQ_normal ?_ | refine blockQ_normal ?_ | refine blockQ_ret ?_ | refine blockQ_this ?_ | refine blockQ_other (by decide) ?_ | refine regW_nil ?_ | refine sw_draw mixed ?_ | refine retQ_ret ?_ | refine retQ_normal ?_))
 | (with_reducible refine regD_nil ?_
    refine ⟨by kernel_rfl, ?_⟩)
 | (revert h; (first | ((with_reducible refine idx_elim ?_); intro m hm1 hm2 hm3 h; (try (simp only [Int.reduceToNat] at hm3)); (try (revert hm3; (with_reducible apply same_elim); (focus (with_reducible assumption)); rintro rfl)); (try (simp only [List.length_set, List.length_cons, List.length_nil, List.length_replicate, Nat.reduceAdd, Int.cast_ofNat_Int, Nat.zero_add, List.length_append] at hm2))) | (with_reducible refine sidx_elim ?_; intro m hm1 hm3 h) | (with_reducible refine gd_elim ?_; intro hg h; try (have hg2 := hg.2; have hg := hg.1; (try (simp only [Nat.reduceLeDiff] at hg2)); (try (revert hg2; (with_reducible refine toNat_elim hg ?_); intro hg2 hg4)); try (have hg3 := hg2.2; have hg2 := hg2.1; (try (simp only [Nat.reduceLeDiff] at hg3))))) | (with_reducible refine condt_elim ?_ ?_; (focus (with_reducible assumption)); intro h) | (with_reducible refine condf_elim ?_ ?_; (focus (with_reducible assumption)); intro h)))
 | with_reducible refine sw_seq ?_
 | with_reducible refine seqQ_ret ?_
 | with_reducible refine seqQ_exit ?_
 | ((with_reducible refine wp_ite ?_ ?_)
    all_goals (intro hc; (try (simp only [Bool.not_eq_true, Bool.not_eq_false] at hc)); simp only [hc]))
 | (with_reducible apply regW_skip
    · simp only [dstOk, Nat.reduceLT]
    · rfl
    · simp only [putSt, lk, lkb, reduceCtorEq, Nat.reduceEqDiff]; done)
 | (with_reducible apply regW_yesN
    · simp only [dstOk, Nat.reduceLT]
    · rfl
    · simp only [putSt, lk, lkb, reduceCtorEq, Nat.reduceEqDiff]; done)
 | (with_reducible apply regW_no
    · simp only [dstOk, Nat.reduceLT]
    · rfl
    · simp only [putSt, lk, lkb, reduceCtorEq, Nat.reduceEqDiff, Bool.not_true, Bool.not_false]; done)
 | (with_reducible apply regW_guardN
    · simp only [dstOk, Nat.reduceLT]
    · rfl
    · simp only [putSt, lk, lkb, reduceCtorEq, Nat.reduceEqDiff]; rfl
    all_goals (intro hc; (try (simp only [Bool.not_true, Bool.not_false] at hc))))
 | (with_reducible apply sw_cond
    · simp only [putSt, lk, lkb, reduceCtorEq, Nat.reduceEqDiff]; rfl
    all_goals (intro hc; try (cases hc; done)))
 | ((first
     | ((with_reducible refine gh_ret ?_)
        revert h
        with_reducible refine some_elim ?_
        rintro rfl)
     | (with_reducible refine here_call ?_
        revert h
        with_reducible refine bind_elim ?_
        intro t ht h
        (first
          | (refine call_dataE (c_spec_l04One ht) ?_ rfl ?_
             · first | rfl | (simp; done))))
     | (with_reducible apply regD_opK
        · simp only [dstOk, Nat.reduceLT]
        · simp only [Nat.reduceAdd]; rfl
        intro k hk)
     | (with_reducible apply regW_opK
        · simp only [dstOk, Nat.reduceLT]
        · simp only [Nat.reduceAdd]; rfl
        intro k hk)
     | skip)
    simp only [RetW, bn, lkb, evb, opC, opP, fetchN, fetchP, fetchAll, fetchO, Prog.bind, Prog.wp, Prog.wp_bind, lk, nameP, nameAll, Value.oneCell', putSt, stepP, putP, reduceCtorEq, V.lin, V.linL, D.lin, isNil, binP, unP, BinOp.isShift, Prog.ofO, Nat.reduceAdd, Nat.reduceMul, Nat.reduceSub, Nat.reduceLT, Nat.reduceLeDiff, Nat.reduceEqDiff, ite_true, ite_false, fieldAddrP, fieldP, indexAddrP, loadP, storeP, boxP, allocP, cellsP, asVal, setSeg, outP, outT, cntT, TyK.field, TyK.agg, zeroRow, V.ren, V.renL, forall_eq_or_imp, forall_const, minmaxP, lenP, lenOf, lenStr, V.asInt, decide_true, decide_false, sliceP, boundP, makeSliceP, convertP, appendP, rowsOfP, ontoP, sizeFits, V.rowSize, TyK.src, resV, resV.go, resV.gol, retP, retOne, retAll, resTo, objsAre, Option.map_eq_map, Function.const_apply, Int.reduceNeg, Int.reduceToNat, ty2, ty5, ty28, ty30, ty37, ty63, ty65, ty107, GFunc.cells, GI2.cells, GProgram.cells, cI, cB, cS, cL, GI2_e, GFunc_e, GProgram_e, *]
    try (refine hk.use _ _ _ _ ?_; clear hk k))
 | fail)
  all_goals (try rfl)
  all_goals (try (simp; done))
  all_goals (try (simp_all; done))
def impl_Nested (p0 : GI3) (p1 : GI3) : Option (Bool) :=
  cond ((((iand .i64 p0.b p1.b)) == p1.b)) (some ((p0.b != p1.b))) (some false)
theorem c_impl_Nested {p0 : GI3} {p1 : GI3} {r : Bool} (h : impl_Nested p0 p1 = some r) : Con Try.prog 28 [.agg [V.int p0.a, V.int p0.b, V.int p0.c], .agg [V.int p1.a, V.int p1.b, V.int p1.c]] [] (V.bool r) [] := by
  refine con_of_sw Try.func28 rfl Try.call28 (by simp [Try.ntmps28]) (by simp [V.inNs, V.inN]) (by simp [C.inN, V.inNss, V.inNs, V.inN, inNss_dd]) (by simp [V.inNs, V.inN]) (by simp [C.inN, V.inNss, V.inNs, V.inN, inNss_dd]) rfl ?_
  rw [Try.ntmps28, Try.results28]
  unfold impl_Nested at h
  replace h := Yes.mk h
  simp only [entryS, entryO, Nat.reduceAdd, List.length_nil, List.length_cons]
  repeat' (first
 | (with_reducible (first | refine sw_reg ?_ | refine sw_ret ?_ | refine sw_skip ?_ | refine sw_block ?_ | refine sw_exit ?_ | refine seqQ_normal ?_ | refine blockQ_normal ?_ | refine blockQ_ret ?_ | refine blockQ_this ?_ | refine blockQ_other (by decide) ?_ | refine regW_nil ?_ | refine sw_draw mixed ?_ | refine retQ_ret ?_ | refine retQ_normal ?_))
 | (with_reducible refine regD_nil ?_
    refine ⟨by kernel_rfl, ?_⟩)
 | (revert h; (first | ((with_reducible refine idx_elim ?_); intro m hm1 hm2 hm3 h; (try (simp only [Int.reduceToNat] at hm3)); (try (revert hm3; (with_reducible apply same_elim); (focus (with_reducible assumption)); rintro rfl)); (try (simp only [List.length_set, List.length_cons, List.length_nil, List.length_replicate, Nat.reduceAdd, Int.cast_ofNat_Int, Nat.zero_add, List.length_append] at hm2))) | (with_reducible refine sidx_elim ?_; intro m hm1 hm3 h) | (with_reducible refine gd_elim ?_; intro hg h; try (have hg2 := hg.2; have hg := hg.1; (try (simp only [Nat.reduceLeDiff] at hg2)); (try (revert hg2; (with_reducible refine toNat_elim hg ?_); intro hg2 hg4)); try (have hg3 := hg2.2; have hg2 := hg2.1; (try (simp only [Nat.reduceLeDiff] at hg3))))) | (with_reducible refine condt_elim ?_ ?_; (focus (with_reducible assumption)); intro h) | (with_reducible refine condf_elim ?_ ?_; (focus (with_reducible assumption)); intro h)))
 | with_reducible refine sw_seq ?_
 | with_reducible refine seqQ_ret ?_
 | with_reducible refine seqQ_exit ?_
 | ((with_reducible refine wp_ite ?_ ?_)
    all_goals (intro hc; (try (simp only [Bool.not_eq_true, Bool.not_eq_false] at hc)); simp only [hc]))
 | (with_reducible apply regW_skip
    · simp only [dstOk, Nat.reduceLT]
    · rfl
    · simp only [putSt, lk, lkb, reduceCtorEq, Nat.reduceEqDiff]; done)
 | (with_reducible apply regW_yesN
    · simp only [dstOk, Nat.reduceLT]
    · rfl
    · simp only [putSt, lk, lkb, reduceCtorEq, Nat.reduceEqDiff]; done)
 | (with_reducible apply regW_no
    · simp only [dstOk, Nat.reduceLT]
    · rfl
    · simp only [putSt, lk, lkb, reduceCtorEq, Nat.reduceEqDiff, Bool.not_true, Bool.not_false]; done)
 | (with_reducible apply regW_guardN
    · simp only [dstOk, Nat.reduceLT]
    · rfl
    · simp only [putSt, lk, lkb, reduceCtorEq, Nat.reduceEqDiff]; rfl
    all_goals (intro hc; (try (simp only [Bool.not_true, Bool.not_false] at hc))))
 | (with_reducible apply sw_cond
    · simp only [putSt, lk, lkb, reduceCtorEq, Nat.reduceEqDiff]; rfl
    all_goals (intro hc; try (cases hc; done)))
 | ((first
     | ((with_reducible refine gh_ret ?_)
        revert h
        with_reducible refine some_elim ?_
        rintro rfl)
     | (with_reducible apply regD_opK
        · simp only [dstOk, Nat.reduceLT]
        · simp only [Nat.reduceAdd]; rfl
        intro k hk)
     | (with_reducible apply regW_opK
        · simp only [dstOk, Nat.reduceLT]
        · simp only [Nat.reduceAdd]; rfl
        intro k hk)
     | skip)
    simp only [RetW, bn, lkb, evb, opC, opP, fetchN, fetchP, fetchAll, fetchO, Prog.bind, Prog.wp, Prog.wp_bind, lk, nameP, nameAll, Value.oneCell', putSt, stepP, putP, reduceCtorEq, V.lin, V.linL, D.lin, isNil, binP, unP, BinOp.isShift, Prog.ofO, Nat.reduceAdd, Nat.reduceMul, Nat.reduceSub, Nat.reduceLT, Nat.reduceLeDiff, Nat.reduceEqDiff, ite_true, ite_false, fieldAddrP, fieldP, indexAddrP, loadP, storeP, boxP, allocP, cellsP, asVal, setSeg, outP, outT, cntT, TyK.field, TyK.agg, zeroRow, V.ren, V.renL, forall_eq_or_imp, forall_const, minmaxP, lenP, lenOf, lenStr, V.asInt, decide_true, decide_false, sliceP, boundP, makeSliceP, convertP, appendP, rowsOfP, ontoP, sizeFits, V.rowSize, TyK.src, resV, resV.go, resV.gol, retP, retOne, retAll, resTo, objsAre, Option.map_eq_map, Function.const_apply, Int.reduceNeg, Int.reduceToNat, ty2, ty4, ty49, GI3.cells, cI, cB, cS, cL, GI3_e, *]
    try (refine hk.use _ _ _ _ ?_; clear hk k))
 | fail)
  all_goals (try rfl)
  all_goals (try (simp; done))
  all_goals (try (simp_all; done))
end Go.Proofs.Ytdlaplgofgklnaa
namespace Go.Proofs.Ytdlaplgofgklnaa
open Go.Proofs Go.Proofs.Ytdlaplgofgklnaa.L
set_option maxHeartbeats 8000000
set_option linter.unusedSimpArgs false
set_option linter.unusedVariables false
set_option maxRecDepth 100000
def laws_FnLoops.a3 (k : Nat) (a1 : (List GI3)) (a2 : (List GI3)) (a3 : (List Int)) (a4 : Int) : Option ((Bool) ⊕ ((List GI3) × (List GI3) × (List Int) × Int)) :=
  (idx a1 a4).bind fun m5 => (idx a2 a4).bind fun m6 => cond ((!((m5.a == m6.a) && ((m5.b == m6.b) && (m5.c == m6.c))))) (some (.inl (false))) (gd (0 ≤ ((IntKind.u64.wrap m5.a))) (cond ((((iand .i64 ((ishr .i64 m5.b ((IntKind.u64.wrap m5.a)))) 1)) == 0)) (some (.inl (false))) (cond ((decide (m5.c < 1))) (some (.inl (false))) (some (.inr (a1, a2, a3, a4))))))
def laws_FnLoops.l4 : Nat → (List GI3) → (List GI3) → (List Int) → Int → Int → Option ((Bool) ⊕ ((List GI3) × (List GI3) × (List Int) × Int))
  | 0, _, _, _, _, _ => none
  | k + 1, a1, a2, a3, a4, a5 => cond ((decide (a5 < ((a3.length : Int))))) ((idx a1 a4).bind fun m7 => gd (0 ≤ ((IntKind.u64.wrap a5))) (cond ((((iand .i64 ((ishr .i64 m7.b ((IntKind.u64.wrap a5)))) 1)) == 1)) ((idx a3 a5).bind fun m8 => gd (0 ≤ ((IntKind.u64.wrap m7.a))) (cond ((((iand .i64 ((ishr .i64 m8 ((IntKind.u64.wrap m7.a)))) 1)) == 0)) (some (.inl (false))) (laws_FnLoops.l4 k a1 a2 a3 a4 ((IntKind.i64.wrap (a5 + 1)))))) (laws_FnLoops.l4 k a1 a2 a3 a4 ((IntKind.i64.wrap (a5 + 1)))))) (some (.inr (a1, a2, a3, a4)))
def laws_FnLoops.l5 : Nat → (List GI3) → (List GI3) → (List Int) → Int → Int → Option ((Bool) ⊕ ((List GI3) × (List GI3) × (List Int) × Int))
  | 0, _, _, _, _, _ => none
  | k + 1, a1, a2, a3, a4, a5 => cond ((decide (a5 < a4))) ((idx a1 a4).bind fun m9 => (idx a1 a5).bind fun m10 => (impl_Nested m9 m10).bind fun t11 => (impl_Nested m10 m9).bind fun t12 => cond ((((iand .i64 m9.b m10.b)) != 0)) (cond ((!t11)) (cond ((!t12)) (some (.inl (false))) (cond t11 (cond ((decide (m9.c ≥ m10.c))) (some (.inl (false))) (cond t12 (cond ((decide (m10.c ≥ m9.c))) (some (.inl (false))) (laws_FnLoops.l5 k a1 a2 a3 a4 ((IntKind.i64.wrap (a5 + 1))))) (laws_FnLoops.l5 k a1 a2 a3 a4 ((IntKind.i64.wrap (a5 + 1)))))) (cond t12 (cond ((decide (m10.c ≥ m9.c))) (some (.inl (false))) (laws_FnLoops.l5 k a1 a2 a3 a4 ((IntKind.i64.wrap (a5 + 1))))) (laws_FnLoops.l5 k a1 a2 a3 a4 ((IntKind.i64.wrap (a5 + 1))))))) (cond t11 (cond ((decide (m9.c ≥ m10.c))) (some (.inl (false))) (cond t12 (cond ((decide (m10.c ≥ m9.c))) (some (.inl (false))) (laws_FnLoops.l5 k a1 a2 a3 a4 ((IntKind.i64.wrap (a5 + 1))))) (laws_FnLoops.l5 k a1 a2 a3 a4 ((IntKind.i64.wrap (a5 + 1)))))) (cond t12 (cond ((decide (m10.c ≥ m9.c))) (some (.inl (false))) (laws_FnLoops.l5 k a1 a2 a3 a4 ((IntKind.i64.wrap (a5 + 1))))) (laws_FnLoops.l5 k a1 a2 a3 a4 ((IntKind.i64.wrap (a5 + 1))))))) (cond t11 (cond ((decide (m9.c ≥ m10.c))) (some (.inl (false))) (cond t12 (cond ((decide (m10.c ≥ m9.c))) (some (.inl (false))) (laws_FnLoops.l5 k a1 a2 a3 a4 ((IntKind.i64.wrap (a5 + 1))))) (laws_FnLoops.l5 k a1 a2 a3 a4 ((IntKind.i64.wrap (a5 + 1)))))) (cond t12 (cond ((decide (m10.c ≥ m9.c))) (some (.inl (false))) (laws_FnLoops.l5 k a1 a2 a3 a4 ((IntKind.i64.wrap (a5 + 1))))) (laws_FnLoops.l5 k a1 a2 a3 a4 ((IntKind.i64.wrap (a5 + 1))))))) (some (.inr (a1, a2, a3, a4)))
def laws_FnLoops.a2 (k : Nat) (a1 : (List GI3)) (a2 : (List GI3)) (a3 : (List Int)) (a4 : Int) : Option ((Bool) ⊕ ((List GI3) × (List GI3) × (List Int) × Int)) :=
  (laws_FnLoops.a3 k a1 a2 a3 a4).bind fun o3 => Sum.elim (fun o3l => some (.inl (o3l))) (fun o3r => (laws_FnLoops.l4 k o3r.1 o3r.2.1 o3r.2.2.1 o3r.2.2.2 0).bind fun o4 => Sum.elim (fun o4l => some (.inl (o4l))) (fun o4r => (laws_FnLoops.l5 k o4r.1 o4r.2.1 o4r.2.2.1 o4r.2.2.2 0).bind fun o5 => Sum.elim (fun o5l => some (.inl (o5l))) (fun o5r => some (.inr (o5r.1, o5r.2.1, o5r.2.2.1, o5r.2.2.2))) o5) o4) o3
def laws_FnLoops.l1 : Nat → (List GI3) → (List GI3) → (List Int) → Int → Option ((Bool) ⊕ (Unit))
  | 0, _, _, _, _ => none
  | k + 1, a1, a2, a3, a4 => cond ((decide (a4 < ((a1.length : Int))))) ((laws_FnLoops.a2 k a1 a2 a3 a4).bind fun o2 => Sum.elim (fun o2l => some (.inl (o2l))) (fun o2r => laws_FnLoops.l1 k o2r.1 o2r.2.1 o2r.2.2.1 ((IntKind.i64.wrap (o2r.2.2.2 + 1)))) o2) (some (.inr ()))
def laws_FnLoops (k : Nat) (p0 : (List Int)) : Option (Bool) :=
  cond ((decide (((p0.length : Int)) > 1048576))) (some true) ((spec_DrawLoops k p0).bind fun t1 => (impl_Loops k t1.1 t1.2).bind fun t2 => (spec_Loops k t1.1 t1.2).bind fun t3 => (spec_Doms k t1.1 t1.2).bind fun t4 => cond ((((t2.length : Int)) != ((t3.length : Int)))) (some false) ((laws_FnLoops.l1 k t2 t3 t4 0).bind fun o1 => Sum.elim (fun o1l => some o1l) (fun o1r => some true) o1))
theorem fl49_laws_FnLoops : flatK Try.prog 49 = some [0, 0, 0] := by kernel_rfl
theorem c_laws_FnLoops {k : Nat} {p0 : (List Int)} {r : Bool} (h : laws_FnLoops k p0 = some r) : Con Try.prog 7 [.d (.row .bor 1 (Rw (cI .u8) p0))] [] (V.bool r) [] := by
  refine con_of_sw Try.func7 rfl Try.call7 (by simp [Try.ntmps7]) (by simp [V.inNs, V.inN]) (by simp [C.inN, V.inNss, V.inNs, V.inN, inNss_dd]) (by simp [V.inNs, V.inN]) (by simp [C.inN, V.inNss, V.inNs, V.inN, inNss_dd]) rfl ?_
  rw [Try.ntmps7, Try.results7]
  unfold laws_FnLoops at h
  replace h := Yes.mk h
  simp only [entryS, entryO, Nat.reduceAdd, List.length_nil, List.length_cons]
  repeat' (first
 | (with_reducible (first | refine sw_reg ?_ | refine sw_ret ?_ | refine sw_skip ?_ | refine sw_block ?_ | refine sw_exit ?_ | refine seqQ_normal ?_ | refine blockQ_normal ?_ | refine blockQ_ret ?_ | refine blockQ_this ?_ | refine blockQ_other (by decide) ?_ | refine regW_nil ?_ | refine sw_draw mixed ?_ | refine retQ_ret ?_ | refine retQ_normal ?_))
 | (with_reducible refine regD_nil ?_
    refine ⟨by kernel_rfl, ?_⟩)
 | (revert h; (first | ((with_reducible refine idx_elim ?_); intro m hm1 hm2 hm3 h; (try (simp only [Int.reduceToNat] at hm3)); (try (revert hm3; (with_reducible apply same_elim); (focus (with_reducible assumption)); rintro rfl)); (try (simp only [List.length_set, List.length_cons, List.length_nil, List.length_replicate, Nat.reduceAdd, Int.cast_ofNat_Int, Nat.zero_add, List.length_append] at hm2))) | (with_reducible refine sidx_elim ?_; intro m hm1 hm3 h) | (with_reducible refine gd_elim ?_; intro hg h; try (have hg2 := hg.2; have hg := hg.1; (try (simp only [Nat.reduceLeDiff] at hg2)); (try (revert hg2; (with_reducible refine toNat_elim hg ?_); intro hg2 hg4)); try (have hg3 := hg2.2; have hg2 := hg2.1; (try (simp only [Nat.reduceLeDiff] at hg3))))) | (with_reducible refine condt_elim ?_ ?_; (focus (with_reducible assumption)); intro h) | (with_reducible refine condf_elim ?_ ?_; (focus (with_reducible assumption)); intro h)))
 | ((first | with_reducible refine seqQ_ret (K := (fun st1 n1 => Gh st1 n1 (NextS _ 50000000 _ _ _ _))) ?_ | with_reducible refine seqQ_exit (K := (fun st1 n1 => Gh st1 n1 (NextS _ 50000000 _ _ _ _))) ?_)
    obtain rfl := h.get
    have h := hK5
    (try (simp only [Sum.elim_inl, Sum.elim_inr] at h)))
 | ((first | with_reducible refine seqQ_ret (K := (fun st1 n1 => Gh st1 n1 (NextS _ 40000000 _ _ _ _))) ?_ | with_reducible refine seqQ_exit (K := (fun st1 n1 => Gh st1 n1 (NextS _ 40000000 _ _ _ _))) ?_)
    obtain rfl := h.get
    have h := hK4
    (try (simp only [Sum.elim_inl, Sum.elim_inr] at h)))
 | ((first | with_reducible refine seqQ_ret (K := (fun st1 n1 => Gh st1 n1 (MeetA _ 30000000 _ _))) ?_ | with_reducible refine seqQ_exit (K := (fun st1 n1 => Gh st1 n1 (MeetA _ 30000000 _ _))) ?_)
    obtain rfl := h.get
    have h := hK3
    (try (simp only [Sum.elim_inl, Sum.elim_inr] at h)))
 | ((first | with_reducible refine seqQ_ret (K := (fun st1 n1 => Gh st1 n1 (MeetA _ 20000000 _ _))) ?_ | with_reducible refine seqQ_exit (K := (fun st1 n1 => Gh st1 n1 (MeetA _ 20000000 _ _))) ?_)
    obtain rfl := h.get
    have h := hK2
    (try (simp only [Sum.elim_inl, Sum.elim_inr] at h)))
 | ((first | with_reducible refine seqQ_ret (K := (fun st1 n1 => Gh st1 n1 (NextS _ 10000000 _ _ _ _))) ?_ | with_reducible refine seqQ_exit (K := (fun st1 n1 => Gh st1 n1 (NextS _ 10000000 _ _ _ _))) ?_)
    obtain rfl := h.get
    have h := hK1
    (try (simp only [Sum.elim_inl, Sum.elim_inr] at h)))
 | (with_reducible refine here_loop (c := (.seq (.seq (.region 20 _ _) _) _)) ?_
    skip
    revert h
    with_reducible refine bind_elimY ?_
    intro o5 h hK5
    refine sw_loop (ι := Nat × (List GI3) × (List GI3) × (List Int) × Int × Int) 50000000 (by decide) (fun x : Nat × (List GI3) × (List GI3) × (List Int) × Int × Int => [(.s 5, some (.v (.sl 896 3 0 x.2.1.length))), (.s 6, some (.v (.sl 1152 3 0 x.2.2.1.length))), (.s 7, some (.v (.sl 1408 1 0 x.2.2.2.1.length))), (.s 8, some (.v (V.int x.2.2.2.2.1))), (.s 10, some (.v (V.int x.2.2.2.2.2))), (.r 896, some (.o 3 (dd (Rw GI3.cells x.2.1)))), (.r 1152, some (.o 3 (dd (Rw GI3.cells x.2.2.1)))), (.r 1408, some (.o 1 (dd (Rw (cI .i64) x.2.2.2.1))))]) (fun x => x.1) (fun x => Yes (laws_FnLoops.l5 x.1 x.2.1 x.2.2.1 x.2.2.2.1 x.2.2.2.2.1 x.2.2.2.2.2) o5) (_, _, _, _, _, _) ?_ h ?_ ?_
    · exact (by simp [slNL, C.inN, V.inN, V.inNs, V.inNss, inNss_dd, inNs_map_d])
    · simp only [SubL, putSt, lk, lkb, reduceCtorEq, Nat.reduceEqDiff, List.length_set, List.length_replicate]; repeat' (first | apply And.intro | rfl | trivial | (simp only [*]; done))
    rintro ⟨_ | k, a1, a2, a3, a4, a5⟩ h
    · simp only [laws_FnLoops.l5] at h; exact h.none
    simp only [laws_FnLoops.l5] at h
)
 | (with_reducible refine here_next (N0 := 50000000) ?_
    skip
    refine nexts_to (_, _, _, _, _, _) (by decide) ?_ (Nat.lt_succ_self _) h ?_
    · exact (by simp [slNL, C.inN, V.inN, V.inNs, V.inNss, inNss_dd, inNs_map_d])
    · simp only [SubL, putSt, lk, lkb, reduceCtorEq, Nat.reduceEqDiff, List.length_set, List.length_replicate]; repeat' (first | apply And.intro | rfl | trivial | (simp only [*]; done)))
 | (with_reducible refine here_loop (c := (.seq (.seq (.region 15 _ _) _) _)) ?_
    skip
    revert h
    with_reducible refine bind_elimY ?_
    intro o4 h hK4
    refine sw_loop (ι := Nat × (List GI3) × (List GI3) × (List Int) × Int × Int) 40000000 (by decide) (fun x : Nat × (List GI3) × (List GI3) × (List Int) × Int × Int => [(.s 5, some (.v (.sl 896 3 0 x.2.1.length))), (.s 6, some (.v (.sl 1152 3 0 x.2.2.1.length))), (.s 7, some (.v (.sl 1408 1 0 x.2.2.2.1.length))), (.s 8, some (.v (V.int x.2.2.2.2.1))), (.s 9, some (.v (V.int x.2.2.2.2.2))), (.r 896, some (.o 3 (dd (Rw GI3.cells x.2.1)))), (.r 1152, some (.o 3 (dd (Rw GI3.cells x.2.2.1)))), (.r 1408, some (.o 1 (dd (Rw (cI .i64) x.2.2.2.1))))]) (fun x => x.1) (fun x => Yes (laws_FnLoops.l4 x.1 x.2.1 x.2.2.1 x.2.2.2.1 x.2.2.2.2.1 x.2.2.2.2.2) o4) (_, _, _, _, _, _) ?_ h ?_ ?_
    · exact (by simp [slNL, C.inN, V.inN, V.inNs, V.inNss, inNss_dd, inNs_map_d])
    · simp only [SubL, putSt, lk, lkb, reduceCtorEq, Nat.reduceEqDiff, List.length_set, List.length_replicate]; repeat' (first | apply And.intro | rfl | trivial | (simp only [*]; done))
    rintro ⟨_ | k, a1, a2, a3, a4, a5⟩ h
    · simp only [laws_FnLoops.l4] at h; exact h.none
    simp only [laws_FnLoops.l4] at h
)
 | (with_reducible refine here_next (N0 := 40000000) ?_
    skip
    refine nexts_to (_, _, _, _, _, _) (by decide) ?_ (Nat.lt_succ_self _) h ?_
    · exact (by simp [slNL, C.inN, V.inN, V.inNs, V.inNss, inNss_dd, inNs_map_d])
    · simp only [SubL, putSt, lk, lkb, reduceCtorEq, Nat.reduceEqDiff, List.length_set, List.length_replicate]; repeat' (first | apply And.intro | rfl | trivial | (simp only [*]; done)))
 | (with_reducible refine here_join (a := (.seq (.region 12 _ _) _)) (b := (.seq (.seq (.region 14 _ _) _) _)) ?_
    skip
    revert h
    with_reducible refine bind_elimY ?_
    intro o3 h hK3
    unfold laws_FnLoops.a3 at h
    refine sw_join (ι := (List GI3) × (List GI3) × (List Int) × Int) 30000000 (fun x : (List GI3) × (List GI3) × (List Int) × Int => [(.s 5, some (.v (.sl 896 3 0 x.1.length))), (.s 6, some (.v (.sl 1152 3 0 x.2.1.length))), (.s 7, some (.v (.sl 1408 1 0 x.2.2.1.length))), (.s 8, some (.v (V.int x.2.2.2))), (.r 896, some (.o 3 (dd (Rw GI3.cells x.1)))), (.r 1152, some (.o 3 (dd (Rw GI3.cells x.2.1)))), (.r 1408, some (.o 1 (dd (Rw (cI .i64) x.2.2.1))))]) (fun x => Yes (some (.inr x)) o3) ?_ ?_
    rotate_left
    rintro ⟨b1, b2, b3, b4⟩ h
    obtain rfl := h.get
    have h := hK3
    (try (simp only [Sum.elim_inl, Sum.elim_inr] at h))
    refine sw_gh ?_
    refine gh_sw ?_
    skip)
 | (with_reducible refine here_meet (N0 := 30000000) ?_
    skip
    refine meet_to (_, _, _, _) (by decide) ?_ h ?_
    · exact (by simp [slNL, C.inN, V.inN, V.inNs, V.inNss, inNss_dd, inNs_map_d])
    · simp only [SubL, putSt, lk, lkb, reduceCtorEq, Nat.reduceEqDiff, List.length_set, List.length_replicate]; repeat' (first | apply And.intro | rfl | trivial | (simp only [*]; done)))
 | (with_reducible refine here_join (a := (.block 1 _)) (b := (.region 11 _ _)) ?_
    skip
    revert h
    with_reducible refine bind_elimY ?_
    intro o2 h hK2
    unfold laws_FnLoops.a2 at h
    refine sw_join (ι := (List GI3) × (List GI3) × (List Int) × Int) 20000000 (fun x : (List GI3) × (List GI3) × (List Int) × Int => [(.s 5, some (.v (.sl 896 3 0 x.1.length))), (.s 6, some (.v (.sl 1152 3 0 x.2.1.length))), (.s 7, some (.v (.sl 1408 1 0 x.2.2.1.length))), (.s 8, some (.v (V.int x.2.2.2))), (.r 896, some (.o 3 (dd (Rw GI3.cells x.1)))), (.r 1152, some (.o 3 (dd (Rw GI3.cells x.2.1)))), (.r 1408, some (.o 1 (dd (Rw (cI .i64) x.2.2.1))))]) (fun x => Yes (some (.inr x)) o2) ?_ ?_
    rotate_left
    rintro ⟨b1, b2, b3, b4⟩ h
    obtain rfl := h.get
    have h := hK2
    (try (simp only [Sum.elim_inl, Sum.elim_inr] at h))
    refine sw_gh ?_
    refine gh_sw ?_
    skip)
 | (with_reducible refine here_meet (N0 := 20000000) ?_
    skip
    refine meet_to (_, _, _, _) (by decide) ?_ h ?_
    · exact (by simp [slNL, C.inN, V.inN, V.inNs, V.inNss, inNss_dd, inNs_map_d])
    · simp only [SubL, putSt, lk, lkb, reduceCtorEq, Nat.reduceEqDiff, List.length_set, List.length_replicate]; repeat' (first | apply And.intro | rfl | trivial | (simp only [*]; done)))
 | (with_reducible refine here_loop (c := (.seq (.seq (.region 10 _ _) _) _)) ?_
    skip
    revert h
    with_reducible refine bind_elimY ?_
    intro o1 h hK1
    refine sw_loop (ι := Nat × (List GI3) × (List GI3) × (List Int) × Int) 10000000 (by decide) (fun x : Nat × (List GI3) × (List GI3) × (List Int) × Int => [(.s 5, some (.v (.sl 896 3 0 x.2.1.length))), (.s 6, some (.v (.sl 1152 3 0 x.2.2.1.length))), (.s 7, some (.v (.sl 1408 1 0 x.2.2.2.1.length))), (.s 8, some (.v (V.int x.2.2.2.2))), (.r 896, some (.o 3 (dd (Rw GI3.cells x.2.1)))), (.r 1152, some (.o 3 (dd (Rw GI3.cells x.2.2.1)))), (.r 1408, some (.o 1 (dd (Rw (cI .i64) x.2.2.2.1))))]) (fun x => x.1) (fun x => Yes (laws_FnLoops.l1 x.1 x.2.1 x.2.2.1 x.2.2.2.1 x.2.2.2.2) o1) (_, _, _, _, _) ?_ h ?_ ?_
    · exact (by simp [slNL, C.inN, V.inN, V.inNs, V.inNss, inNss_dd, inNs_map_d])
    · simp only [SubL, putSt, lk, lkb, reduceCtorEq, Nat.reduceEqDiff, List.length_set, List.length_replicate]; repeat' (first | apply And.intro | rfl | trivial | (simp only [*]; done))
    rintro ⟨_ | k, a1, a2, a3, a4⟩ h
    · simp only [laws_FnLoops.l1] at h; exact h.none
    simp only [laws_FnLoops.l1] at h
)
 | (with_reducible refine here_next (N0 := 10000000) ?_
    skip
    refine nexts_to (_, _, _, _, _) (by decide) ?_ (Nat.lt_succ_self _) h ?_
    · exact (by simp [slNL, C.inN, V.inN, V.inNs, V.inNss, inNss_dd, inNs_map_d])
    · simp only [SubL, putSt, lk, lkb, reduceCtorEq, Nat.reduceEqDiff, List.length_set, List.length_replicate]; repeat' (first | apply And.intro | rfl | trivial | (simp only [*]; done)))
 | with_reducible refine sw_seq ?_
 | with_reducible refine seqQ_ret ?_
 | with_reducible refine seqQ_exit ?_
 | ((with_reducible refine wp_ite ?_ ?_)
    all_goals (intro hc; (try (simp only [Bool.not_eq_true, Bool.not_eq_false] at hc)); simp only [hc]))
 | (with_reducible apply regW_skip
    · simp only [dstOk, Nat.reduceLT]
    · rfl
    · simp only [putSt, lk, lkb, reduceCtorEq, Nat.reduceEqDiff]; done)
 | (with_reducible apply regW_yesN
    · simp only [dstOk, Nat.reduceLT]
    · rfl
    · simp only [putSt, lk, lkb, reduceCtorEq, Nat.reduceEqDiff]; done)
 | (with_reducible apply regW_no
    · simp only [dstOk, Nat.reduceLT]
    · rfl
    · simp only [putSt, lk, lkb, reduceCtorEq, Nat.reduceEqDiff, Bool.not_true, Bool.not_false]; done)
 | (with_reducible apply regW_guardN
    · simp only [dstOk, Nat.reduceLT]
    · rfl
    · simp only [putSt, lk, lkb, reduceCtorEq, Nat.reduceEqDiff]; rfl
    all_goals (intro hc; (try (simp only [Bool.not_true, Bool.not_false] at hc))))
 | (with_reducible apply sw_cond
    · simp only [putSt, lk, lkb, reduceCtorEq, Nat.reduceEqDiff]; rfl
    all_goals (intro hc; try (cases hc; done)))
 | ((first
     | ((with_reducible refine gh_ret ?_)
        revert h
        with_reducible refine some_elim ?_
        rintro rfl)
     | (with_reducible refine here_call ?_
        revert h
        with_reducible refine bind_elim ?_
        intro t ht h
        (first
          | (refine call_obj [] (c_spec_Doms ht) (by decide) ?_ ?_
             · first | exact .inl rfl | (refine .inr ⟨?_, ?_⟩; (focus (first | rfl | (simp only [V.nb, V.nbL, D.nb, D.nbL, Md.nb, nbb, GI2_nb, GFunc_nb, GProgram_nb, GI3_nb, LcIi64_nb]; done))); (focus (simp [C.nb, V.nbLL, V.nbL, V.nb, D.nb]; done)))
             simp only [argsP, argP, V.namesOf, V.namesOfL, List.mem_append, List.append_nil, List.mem_cons, or_false, or_true, true_or, objsP, C.ren, V.ren, V.renL, renLL_dd, V.renLL, List.getD_cons_zero, List.getD_cons_succ, C.o.injEq, hyb, lendAL, lendA, undd.unddR, D.lendL, D.lend, Md.lend, GI2_lend, GFunc_lend, GProgram_lend, GI3_lend, LcIi64_lend, putSt, lk, lkb, reduceCtorEq, Nat.reduceEqDiff, Prog.wp, Prog.wp_bind, Prog.bind, Prog.ofO, List.take_of_length_le, *])
          | (refine call_obj [] (c_spec_Loops ht) (by decide) ?_ ?_
             · first | exact .inl rfl | (refine .inr ⟨?_, ?_⟩; (focus (first | rfl | (simp only [V.nb, V.nbL, D.nb, D.nbL, Md.nb, nbb, GI2_nb, GFunc_nb, GProgram_nb, GI3_nb, LcIi64_nb]; done))); (focus (simp [C.nb, V.nbLL, V.nbL, V.nb, D.nb]; done)))
             simp only [argsP, argP, V.namesOf, V.namesOfL, List.mem_append, List.append_nil, List.mem_cons, or_false, or_true, true_or, objsP, C.ren, V.ren, V.renL, renLL_dd, V.renLL, List.getD_cons_zero, List.getD_cons_succ, C.o.injEq, hyb, lendAL, lendA, undd.unddR, D.lendL, D.lend, Md.lend, GI2_lend, GFunc_lend, GProgram_lend, GI3_lend, LcIi64_lend, putSt, lk, lkb, reduceCtorEq, Nat.reduceEqDiff, Prog.wp, Prog.wp_bind, Prog.bind, Prog.ofO, List.take_of_length_le, *])
          | (refine call_obj [] (c_impl_Loops ht) (by decide) ?_ ?_
             · first | exact .inl rfl | (refine .inr ⟨?_, ?_⟩; (focus (first | rfl | (simp only [V.nb, V.nbL, D.nb, D.nbL, Md.nb, nbb, GI2_nb, GFunc_nb, GProgram_nb, GI3_nb, LcIi64_nb]; done))); (focus (simp [C.nb, V.nbLL, V.nbL, V.nb, D.nb]; done)))
             simp only [argsP, argP, V.namesOf, V.namesOfL, List.mem_append, List.append_nil, List.mem_cons, or_false, or_true, true_or, objsP, C.ren, V.ren, V.renL, renLL_dd, V.renLL, List.getD_cons_zero, List.getD_cons_succ, C.o.injEq, hyb, lendAL, lendA, undd.unddR, D.lendL, D.lend, Md.lend, GI2_lend, GFunc_lend, GProgram_lend, GI3_lend, LcIi64_lend, putSt, lk, lkb, reduceCtorEq, Nat.reduceEqDiff, Prog.wp, Prog.wp_bind, Prog.bind, Prog.ofO, List.take_of_length_le, *])
          | (refine call_dataE (c_spec_DrawLoops ht) ?_ rfl ?_
             · first | rfl | (simp; done))
          | (refine call_dataE (c_impl_Nested ht) ?_ rfl ?_
             · first | rfl | (simp; done))))
     | (with_reducible apply regD_opK
        · simp only [dstOk, Nat.reduceLT]
        · simp only [Nat.reduceAdd]; rfl
        intro k hk)
     | (with_reducible apply regW_opK
        · simp only [dstOk, Nat.reduceLT]
        · simp only [Nat.reduceAdd]; rfl
        intro k hk)
     | skip)
    simp only [RetW, bn, lkb, evb, opC, opP, fetchN, fetchP, fetchAll, fetchO, Prog.bind, Prog.wp, Prog.wp_bind, lk, nameP, nameAll, Value.oneCell', putSt, stepP, putP, reduceCtorEq, V.lin, V.linL, D.lin, isNil, binP, unP, BinOp.isShift, Prog.ofO, Nat.reduceAdd, Nat.reduceMul, Nat.reduceSub, Nat.reduceLT, Nat.reduceLeDiff, Nat.reduceEqDiff, ite_true, ite_false, fieldAddrP, fieldP, indexAddrP, loadP, storeP, boxP, allocP, cellsP, asVal, setSeg, outP, outT, cntT, TyK.field, TyK.agg, zeroRow, V.ren, V.renL, forall_eq_or_imp, forall_const, minmaxP, lenP, lenOf, lenStr, V.asInt, decide_true, decide_false, sliceP, boundP, makeSliceP, convertP, appendP, rowsOfP, ontoP, sizeFits, V.rowSize, TyK.src, resV, resV.go, resV.gol, retP, retOne, retAll, resTo, objsAre, Option.map_eq_map, Function.const_apply, Int.reduceNeg, Int.reduceToNat, ty2, ty3, ty4, ty5, ty26, ty28, ty30, ty37, ty41, ty44, ty49, ty63, ty65, ty107, GFunc.cells, GI2.cells, GI3.cells, GProgram.cells, cI, cB, cS, cL, GI2_e, GFunc_e, GProgram_e, GI3_e, LcIi64_e, shiftBin_shl, shiftBin_shr, intBin_quo, intBin_rem, Int.reduceLT, Int.reduceEq, not_false_eq_true, Int.not_lt, cellsEq, cellEq, Bool.and_true, fl49_laws_FnLoops, or_true, *]
    try (refine hk.use _ _ _ _ ?_; clear hk k))
 | fail)
  all_goals (try rfl)
  all_goals (try (simp; done))
  all_goals (try (simp_all; done))
end Go.Proofs.Ytdlaplgofgklnaa
namespace Go.Proofs.Ytdlaplgofgklnaa
open Go.Proofs Go.Proofs.Ytdlaplgofgklnaa.L
set_option linter.unusedVariables false
set_option linter.unusedSimpArgs false
structure Small (p : GProgram) : Prop where
  funcs : p.funcs.length ≤ 1048576
  code : ∀ f ∈ p.funcs, f.code.length ≤ 1048576
def takesL (p : GProgram) (i : GI2) : Int :=
  if (10 ≤ i.a ∧ i.a ≤ 23) ∨ i.a = 35 then 2 else if i.a = 36 then 3 else if i.a = 32 then (if 0 ≤ i.b then match p.funcs[i.b.toNat]? with | some f => f.args | none => 0 else 0)
  else if 24 ≤ i.a ∧ i.a ≤ 29 then 1 else if i.a = 3 ∨ i.a = 4 ∨ i.a = 5 ∨ i.a = 31 ∨ i.a = 33 ∨ i.a = 34 ∨ i.a = 37 ∨ i.a = 38 then 1 else 0
def putsL (i : GI2) : Int :=
  if i.a = 4 then 2 else if i.a = 1 ∨ i.a = 2 ∨ i.a = 32 ∨ i.a = 34 ∨ i.a = 35 ∨ i.a = 37 ∨ (10 ≤ i.a ∧ i.a ≤ 29) then 1 else 0
def nextL (i : GI2) (x : Int) : List Int := if i.a = 33 then [] else if i.a = 30 then [i.b] else if i.a = 31 then [x + 1, i.b] else [x + 1]
theorem putsL_range (i : GI2) : 0 ≤ putsL i ∧ putsL i ≤ 2 := by unfold putsL; split <;> (try split) <;> omega
theorem op_cases (a : Int) : (a = 0 ∨ a = 1 ∨ a = 2 ∨ a = 3 ∨ a = 4 ∨ a = 5 ∨ a = 6 ∨ a = 7 ∨ a = 8 ∨ a = 9 ∨ a = 10 ∨ a = 11 ∨ a = 12 ∨ a = 13 ∨ a = 14 ∨ a = 15 ∨ a = 16 ∨ a = 17 ∨ a = 18 ∨ a = 19 ∨ a = 20 ∨ a = 21 ∨ a = 22 ∨ a = 23 ∨ a = 24 ∨ a = 25 ∨ a = 26 ∨ a = 27 ∨ a = 28 ∨ a = 29 ∨ a = 30 ∨ a = 31 ∨ a = 32 ∨ a = 33 ∨ a = 34 ∨ a = 35 ∨ a = 36 ∨ a = 37 ∨ a = 38) ∨ (a < 0 ∨ 38 < a) := by omega
theorem specTakes (k : Nat) (p : GProgram) (i : GI2) : spec_Takes k p i = some (takesL p i) := by
  obtain ⟨fs⟩ := p
  obtain ⟨a, b⟩ := i
  rcases op_cases a with (rfl | rfl | rfl | rfl | rfl | rfl | rfl | rfl | rfl | rfl | rfl | rfl | rfl | rfl | rfl | rfl | rfl | rfl | rfl | rfl | rfl | rfl | rfl | rfl | rfl | rfl | rfl | rfl | rfl | rfl | rfl | rfl | rfl | rfl | rfl | rfl | rfl | rfl | rfl) | h
  all_goals (try rfl)
  · unfold spec_Takes spec_Takes.a1 spec_Takes.a2 spec_l03Binary spec_l03Unary takesL
    by_cases hb : b < 0
    · simp [hb, show ¬ 0 ≤ b by omega]
    · by_cases hc : (fs.length : Int) ≤ b
      · have : fs[b.toNat]? = none := List.getElem?_eq_none (by omega)
        simp [hb, hc, show 0 ≤ b by omega, this]
      · obtain ⟨m, hm⟩ := list_get (show b.toNat < fs.length by omega)
        simp [hb, hc, show 0 ≤ b by omega, hm, idx_of]
  · have e : ∀ c : Int, 0 ≤ c → c ≤ 38 → (a == c) = false := by intro c h1 h2; simp; omega
    have e2 : ∀ c : Int, 0 ≤ c → c ≤ 38 → ¬ a = c := by intro c h1 h2; omega
    have r1 : ¬ (10 ≤ a ∧ a ≤ 23) := by omega
    have r2 : ¬ (24 ≤ a ∧ a ≤ 29) := by omega
    unfold spec_Takes spec_Takes.a1 spec_Takes.a2 spec_l03Binary spec_l03Unary takesL
    rcases h with h | h
    · simp [e, e2, show ¬ 10 ≤ a by omega, show ¬ 24 ≤ a by omega]
    · simp [e, e2, show 10 ≤ a by omega, show 24 ≤ a by omega, show ¬ a ≤ 23 by omega, show ¬ a ≤ 29 by omega]
theorem implTakes (k : Nat) (p : GProgram) (i : GI2) : impl_Takes k p i = some (takesL p i) := by
  obtain ⟨fs⟩ := p
  obtain ⟨a, b⟩ := i
  rcases op_cases a with (rfl | rfl | rfl | rfl | rfl | rfl | rfl | rfl | rfl | rfl | rfl | rfl | rfl | rfl | rfl | rfl | rfl | rfl | rfl | rfl | rfl | rfl | rfl | rfl | rfl | rfl | rfl | rfl | rfl | rfl | rfl | rfl | rfl | rfl | rfl | rfl | rfl | rfl | rfl) | h
  all_goals (try rfl)
  · unfold impl_Takes impl_Takes.a1 impl_Takes.a2 impl_isBinary impl_isUnary impl_hasFunc impl_in takesL
    by_cases hb : 0 ≤ b
    · by_cases hc : b < (fs.length : Int)
      · obtain ⟨m, hm⟩ := list_get (show b.toNat < fs.length by omega)
        simp [hb, hc, hm, idx_of]
      · have : fs[b.toNat]? = none := List.getElem?_eq_none (by omega)
        simp [hb, hc, this]
    · simp [hb]
  · have e : ∀ c : Int, 0 ≤ c → c ≤ 38 → (a == c) = false := by intro c h1 h2; simp; omega
    have e2 : ∀ c : Int, 0 ≤ c → c ≤ 38 → ¬ a = c := by intro c h1 h2; omega
    unfold impl_Takes impl_Takes.a1 impl_Takes.a2 impl_isBinary impl_isUnary impl_hasFunc impl_in takesL
    rcases h with h | h
    · simp [e, e2, show ¬ 10 ≤ a by omega, show ¬ 24 ≤ a by omega]
    · simp [e, e2, show 10 ≤ a by omega, show 24 ≤ a by omega, show ¬ a ≤ 23 by omega, show ¬ a ≤ 29 by omega]
theorem specPuts (k : Nat) (i : GI2) : spec_Puts k i = some (putsL i) := by
  obtain ⟨a, b⟩ := i
  rcases op_cases a with (rfl | rfl | rfl | rfl | rfl | rfl | rfl | rfl | rfl | rfl | rfl | rfl | rfl | rfl | rfl | rfl | rfl | rfl | rfl | rfl | rfl | rfl | rfl | rfl | rfl | rfl | rfl | rfl | rfl | rfl | rfl | rfl | rfl | rfl | rfl | rfl | rfl | rfl | rfl) | h
  all_goals (try rfl)
  have e : ∀ c : Int, 0 ≤ c → c ≤ 38 → (a == c) = false := by intro c h1 h2; simp; omega
  have e2 : ∀ c : Int, 0 ≤ c → c ≤ 38 → ¬ a = c := by intro c h1 h2; omega
  unfold spec_Puts spec_Puts.a1 spec_l03Binary spec_l03Unary putsL
  rcases h with h | h
  · simp [e, e2, show ¬ 10 ≤ a by omega, show ¬ 24 ≤ a by omega]
  · simp [e, e2, show 10 ≤ a by omega, show 24 ≤ a by omega, show ¬ a ≤ 23 by omega, show ¬ a ≤ 29 by omega]
theorem implPuts (i : GI2) : impl_Puts i = some (putsL i) := by
  obtain ⟨a, b⟩ := i
  rcases op_cases a with (rfl | rfl | rfl | rfl | rfl | rfl | rfl | rfl | rfl | rfl | rfl | rfl | rfl | rfl | rfl | rfl | rfl | rfl | rfl | rfl | rfl | rfl | rfl | rfl | rfl | rfl | rfl | rfl | rfl | rfl | rfl | rfl | rfl | rfl | rfl | rfl | rfl | rfl | rfl) | h
  all_goals (try rfl)
  have e : ∀ c : Int, 0 ≤ c → c ≤ 38 → (a == c) = false := by intro c h1 h2; simp; omega
  have e2 : ∀ c : Int, 0 ≤ c → c ≤ 38 → ¬ a = c := by intro c h1 h2; omega
  unfold impl_Puts impl_isArith impl_in putsL
  rcases h with h | h
  · simp [e, e2, show ¬ 10 ≤ a by omega]
  · simp [e, e2, show 10 ≤ a by omega, show ¬ a ≤ 29 by omega]
theorem implNext (i : GI2) (x : Nat) (h : x < 1000000) : impl_next i (x : Int) = some (nextL i x) := by
  unfold impl_next nextL
  rw [wrap_id (by omega) (by omega)]
  have e : ∀ c : Int, ¬ i.a = c → (i.a == c) = false := by intro c h1; simp; exact h1
  by_cases h1 : i.a = 33 <;> by_cases h2 : i.a = 30 <;> by_cases h3 : i.a = 31 <;> simp [h1, h2, h3, e]
theorem nextL_length (i : GI2) (x : Int) : (nextL i x).length ≤ 2 := by
  unfold nextL
  split <;> (try split) <;> (try split) <;> simp
def putN (len : Nat) (v : Int) : List Int → List Int → List Bool → Option (List Int × List Bool)
  | [], h, w => some (h, w)
  | n :: ns, h, w => if (len : Int) ≤ n then none else match h[n.toNat]? with
    | none => none
    | some x => if 0 ≤ x then (if x = v then putN len v ns h w else none) else putN len v ns (h.set n.toNat v) (w.set n.toNat true)
abbrev StepF := Nat → List Int → List Bool → Option (List Int × List Bool)
def stepI (p : GProgram) (code : List GI2) : StepF := fun x h w => match code[x]?, h[x]? with
  | some i, some y => if IntKind.i64.wrap (y - takesL p i) < 0 then none else if 8 < IntKind.i64.wrap (IntKind.i64.wrap (y - takesL p i) + putsL i) then none
      else putN code.length (IntKind.i64.wrap (IntKind.i64.wrap (y - takesL p i) + putsL i)) (nextL i x) h (w.set x false)
  | _, _ => none
def stepS (p : GProgram) (code : List GI2) : StepF := fun x h w => match code[x]?, h[x]? with
  | some i, some y => if y < takesL p i then none else if 8 < IntKind.i64.wrap (IntKind.i64.wrap (y - takesL p i) + putsL i) then none
      else putN code.length (IntKind.i64.wrap (IntKind.i64.wrap (y - takesL p i) + putsL i)) (nextL i x) h (w.set x false)
  | _, _ => none
def Least (w : List Bool) (x : Nat) : Prop := w[x]? = some true ∧ ∀ j, j < x → w[j]? ≠ some true
inductive HRun (st : StepF) : List Int → List Bool → Option (List Int) → Prop
  | done {h : List Int} {w : List Bool} : (∀ j : Nat, w[j]? ≠ some true) → HRun st h w (some h)
  | bad {h : List Int} {w : List Bool} {x : Nat} : Least w x → st x h w = none → HRun st h w none
  | go {h h' : List Int} {w w' : List Bool} {x : Nat} {r : Option (List Int)} : Least w x → st x h w = some (h', w') → HRun st h' w' r → HRun st h w r
theorem least_or (w : List Bool) : (∀ j : Nat, w[j]? ≠ some true) ∨ ∃ x, Least w x := by
  by_cases h : ∃ j : Nat, w[j]? = some true
  · right
    obtain ⟨j, hj⟩ := h
    induction j using Nat.strongRecOn with
    | _ j ih =>
      by_cases c : ∃ i, i < j ∧ w[i]? = some true
      · obtain ⟨i, hi, hw⟩ := c
        exact ih i hi hw
      · exact ⟨j, hj, fun i hi hw => c ⟨i, hi, hw⟩⟩
  · left
    intro j hj
    exact h ⟨j, hj⟩
theorem wrap64_eq (x : Int) : IntKind.i64.wrap x = if x % 18446744073709551616 ≥ 9223372036854775808 then x % 18446744073709551616 - 18446744073709551616 else x % 18446744073709551616 := by
  simp [IntKind.wrap, IntKind.bits, IntKind.signed]
def cw (N j : Nat) (x : Int) (b : Bool) : Nat := (if x < 0 then 3 * N else 0) + (if b then (if x < 0 then N - j else 3 * N) else 0)
def mz (N : Nat) : Nat → List Int → List Bool → Nat
  | j, x :: h, b :: w => cw N j x b + mz N (j + 1) h w
  | _, _, _ => 0
theorem mz_set (N : Nat) : ∀ (j : Nat) (h : List Int) (w : List Bool) (i : Nat) (x : Int) (b : Bool) (x' : Int) (b' : Bool), h[i]? = some x → w[i]? = some b → mz N j (h.set i x') (w.set i b') + cw N (j + i) x b = mz N j h w + cw N (j + i) x' b'
  | j, [], w, i, x, b, x', b', h1, h2 => by simp at h1
  | j, y :: h, [], i, x, b, x', b', h1, h2 => by simp at h2
  | j, y :: h, c :: w, 0, x, b, x', b', h1, h2 => by
    simp at h1 h2
    subst h1 h2
    simp only [List.set_cons_zero, mz, Nat.add_zero]
    omega
  | j, y :: h, c :: w, i + 1, x, b, x', b', h1, h2 => by
    simp only [List.getElem?_cons_succ] at h1 h2
    simp only [List.set_cons_succ, mz]
    have := mz_set N (j + 1) h w i x b x' b' h1 h2
    rw [show j + 1 + i = j + (i + 1) by omega] at this
    omega
theorem set_same {α : Type} {l : List α} {i : Nat} {x : α} (h : l[i]? = some x) : l.set i x = l := by
  apply List.ext_getElem?
  intro j
  by_cases e : i = j
  · subst e
    rw [List.getElem?_set_self (List.getElem?_eq_some_iff.1 h).1, h]
  · rw [List.getElem?_set_ne e]
theorem mz_setw {N : Nat} {h : List Int} {w : List Bool} {i : Nat} {x : Int} {b : Bool} (b' : Bool) (h1 : h[i]? = some x) (h2 : w[i]? = some b) : mz N 0 h (w.set i b') + cw N i x b = mz N 0 h w + cw N i x b' := by
  have := mz_set N 0 h w i x b x b' h1 h2
  rw [Nat.zero_add] at this
  rwa [set_same h1] at this
structure HInv (A : Int → Prop) (W : Int → Prop) (h : List Int) (w : List Bool) : Prop where
  len : h.length = w.length
  all : ∀ (j : Nat) (x : Int), h[j]? = some x → A x
  wt : ∀ (j : Nat) (x : Int), h[j]? = some x → w[j]? = some true → W x
theorem HInv.drop {A W : Int → Prop} {h : List Int} {w : List Bool} (i : HInv A W h w) (x : Nat) : HInv A W h (w.set x false) := by
  refine ⟨by simpa using i.len, i.all, fun j y h1 h2 => ?_⟩
  by_cases e : x = j
  · subst e
    rw [List.getElem?_set_self (by have := (List.getElem?_eq_some_iff.1 h1).1; have := i.len; omega)] at h2
    cases h2
  · rw [List.getElem?_set_ne e] at h2
    exact i.wt j y h1 h2
theorem HInv.put {A W : Int → Prop} {h : List Int} {w : List Bool} (i : HInv A W h w) (x : Nat) {v : Int} (hA : A v) (hW : W v) : HInv A W (h.set x v) (w.set x true) := by
  refine ⟨by simpa using i.len, fun j y h1 => ?_, fun j y h1 h2 => ?_⟩
  · by_cases e : x = j
    · subst e
      by_cases hx : x < h.length
      · rw [List.getElem?_set_self hx] at h1; cases h1; exact hA
      · rw [List.getElem?_eq_none (by simp; omega)] at h1; cases h1
    · rw [List.getElem?_set_ne e] at h1; exact i.all j y h1
  · by_cases e : x = j
    · subst e
      by_cases hx : x < h.length
      · rw [List.getElem?_set_self hx] at h1; cases h1; exact hW
      · rw [List.getElem?_eq_none (by simp; omega)] at h1; cases h1
    · rw [List.getElem?_set_ne e] at h1 h2; exact i.wt j y h1 h2
def more (N : Nat) : List Int → Nat
  | [] => 0
  | n :: ns => (N - n.toNat) + more N ns
theorem putN_inv {A W : Int → Prop} {len : Nat} {v : Int} (N : Nat) (hA : A v) (hW : W v) : ∀ (ns : List Int) (h : List Int) (w : List Bool) (h' : List Int) (w' : List Bool), HInv A W h w → putN len v ns h w = some (h', w') →
    HInv A W h' w' ∧ h'.length = h.length ∧ mz N 0 h' w' ≤ mz N 0 h w + (if v < 0 then more N ns else 0)
  | [], h, w, h', w', hi, hp => by
    simp only [putN, Option.some.injEq, Prod.mk.injEq] at hp
    obtain ⟨rfl, rfl⟩ := hp
    exact ⟨hi, rfl, by simp⟩
  | n :: ns, h, w, h', w', hi, hp => by
    simp only [putN] at hp
    split at hp
    · cases hp
    split at hp
    · cases hp
    rename_i x hx
    split at hp
    · split at hp
      · obtain ⟨h1, h2, h3⟩ := putN_inv N hA hW ns h w h' w' hi hp
        refine ⟨h1, h2, ?_⟩
        simp only [more]
        split at h3 <;> simp_all <;> omega
      · cases hp
    · rename_i hneg
      obtain ⟨h1, h2, h3⟩ := putN_inv N hA hW ns _ _ h' w' (hi.put n.toNat hA hW) hp
      obtain ⟨b, hb⟩ := list_get (show n.toNat < w.length by have := (List.getElem?_eq_some_iff.1 hx).1; have := hi.len; omega)
      have hm := mz_set N 0 h w n.toNat x b v true hx hb
      rw [Nat.zero_add] at hm
      refine ⟨h1, by simpa using h2, ?_⟩
      have c1 : 3 * N ≤ cw N n.toNat x b := by unfold cw; rw [if_pos (by omega)]; omega
      have c2 : cw N n.toNat v true ≤ 3 * N + (if v < 0 then N - n.toNat else 0) := by unfold cw; split <;> simp
      simp only [more]
      split at h3
      · rename_i c; rw [if_pos c] at c2; rw [if_pos c]; omega
      · rename_i c; rw [if_neg c] at c2; rw [if_neg c]; omega
def Good (len : Nat) (A W : Int → Prop) (st : StepF) : Prop := ∀ (x : Nat) (h : List Int) (w : List Bool) (h' : List Int) (w' : List Bool), h.length = len → HInv A W h w → w[x]? = some true → st x h w = some (h', w') →
  HInv A W h' w' ∧ h'.length = h.length ∧ mz (len + 1) 0 h' w' < mz (len + 1) 0 h w
theorem run_ex {len : Nat} {A W : Int → Prop} {st : StepF} (g : Good len A W st) : ∀ (n : Nat) (h : List Int) (w : List Bool), mz (len + 1) 0 h w = n → h.length = len → HInv A W h w → ∃ r, HRun st h w r := by
  intro n
  induction n using Nat.strongRecOn with
  | _ n ih =>
    intro h w hn hl hi
    rcases least_or w with hd | ⟨x, hx⟩
    · exact ⟨_, .done hd⟩
    · cases hs : st x h w with
      | none => exact ⟨_, .bad hx hs⟩
      | some q =>
        obtain ⟨h', w'⟩ := q
        obtain ⟨h1, h2, h3⟩ := g x h w h' w' hl hi hx.1 hs
        obtain ⟨r, hr⟩ := ih _ (hn ▸ h3) h' w' rfl (h2.trans hl) h1
        exact ⟨r, .go hx hs hr⟩
theorem step_fall {A W : Int → Prop} {len : Nat} {v y : Int} {ns h h' : List Int} {w w' : List Bool} {x : Nat} (hl : h.length = len) (hi : HInv A W h w) (hA : A v) (hW : W v) (hy : h[x]? = some y) (hw : w[x]? = some true) (hns : ns.length ≤ 2)
    (hv : y < 0 → 0 ≤ v ∨ ns = [(x : Int) + 1])
    (hp : putN len v ns h (w.set x false) = some (h', w')) : HInv A W h' w' ∧ h'.length = h.length ∧ mz (len + 1) 0 h' w' < mz (len + 1) 0 h w := by
  obtain ⟨h1, h2, h3⟩ := putN_inv (len + 1) hA hW ns h _ h' w' (hi.drop x) hp
  have hx := (List.getElem?_eq_some_iff.1 hy).1
  have hm := mz_setw (N := len + 1) false hy hw
  refine ⟨h1, h2, ?_⟩
  have c1 : cw (len + 1) x y true = cw (len + 1) x y false + (if y < 0 then len + 1 - x else 3 * (len + 1)) := by unfold cw; simp
  have c3 : more (len + 1) ns ≤ 2 * (len + 1) := by
    match ns, hns with
    | [], _ => simp [more]
    | [a], _ => simp only [more]; omega
    | [a, b], _ => simp only [more]; omega
  by_cases c : y < 0
  · rw [if_pos c] at c1
    rcases hv c with h0 | h0
    · rw [if_neg (by omega)] at h3
      omega
    · subst h0
      have : more (len + 1) [(x : Int) + 1] = len + 1 - (x + 1) := by simp only [more]; omega
      rw [this] at h3
      split at h3 <;> omega
  · rw [if_neg c] at c1
    split at h3 <;> omega
abbrev A1 (x : Int) : Prop := -1 ≤ x ∧ x ≤ 8
abbrev W1 (x : Int) : Prop := 0 ≤ x ∧ x ≤ 8
abbrev A2 (x : Int) : Prop := (-1 ≤ x ∧ x ≤ 8) ∨ (-9223372036854775808 ≤ x ∧ x ≤ -9223372036854775788)
abbrev W2 (x : Int) : Prop := (0 ≤ x ∧ x ≤ 8) ∨ (-9223372036854775808 ≤ x ∧ x ≤ -9223372036854775788)
def Args64 (p : GProgram) : Prop := ∀ f ∈ p.funcs, -9223372036854775808 ≤ f.args ∧ f.args ≤ 9223372036854775807
theorem takes64 {p : GProgram} (h : Args64 p) (i : GI2) : -9223372036854775808 ≤ takesL p i ∧ takesL p i ≤ 9223372036854775807 := by
  unfold takesL
  split
  · omega
  split
  · omega
  split
  · split
    · split
      · rename_i f hf
        exact h f (List.mem_of_getElem? hf)
      · omega
    · omega
  split
  · omega
  split <;> omega
theorem puts_next {i : GI2} {x : Int} (h : 0 < putsL i) : nextL i x = [x + 1] := by
  unfold putsL at h
  unfold nextL
  split at h
  · rw [if_neg (by omega), if_neg (by omega), if_neg (by omega)]
  · split at h
    · rw [if_neg (by omega), if_neg (by omega), if_neg (by omega)]
    · omega
theorem goodI (p : GProgram) (code : List GI2) (hp : Args64 p) : Good code.length A2 W2 (stepI p code) := by
  intro x h w h' w' hl hi hw hs
  unfold stepI at hs
  split at hs
  · rename_i i y hi' hy
    split at hs
    · cases hs
    split at hs
    · cases hs
    rename_i c1 c2
    have hW := hi.wt x y hy hw
    have hpu := putsL_range i
    have e1 : 0 ≤ IntKind.i64.wrap (y - takesL p i) := by omega
    have e2 : IntKind.i64.wrap (y - takesL p i) ≤ 9223372036854775807 := by rw [wrap64_eq]; split <;> omega
    generalize IntKind.i64.wrap (y - takesL p i) = q at *
    have hv : W2 (IntKind.i64.wrap (q + putsL i)) ∧ (0 ≤ IntKind.i64.wrap (q + putsL i) ∨ 0 < putsL i) := by
      by_cases c : q + putsL i ≤ 9223372036854775807
      · rw [wrap_id (by omega) c] at c2 ⊢
        exact ⟨.inl ⟨by omega, by omega⟩, .inl (by omega)⟩
      · have : IntKind.i64.wrap (q + putsL i) = q + putsL i - 18446744073709551616 := by rw [wrap64_eq]; split <;> omega
        rw [this]
        exact ⟨.inr ⟨by omega, by omega⟩, .inr (by omega)⟩
    refine step_fall hl hi ?_ hv.1 hy hw (nextL_length _ _) (fun hh => ?_) hs
    · have := hv.1; rcases this with h1 | h1
      · exact .inl ⟨by omega, h1.2⟩
      · exact .inr h1
    · rcases hv.2 with h1 | h1
      · exact .inl h1
      · exact .inr (puts_next h1)
  · cases hs
theorem goodS (p : GProgram) (code : List GI2) (hp : Args64 p) : Good code.length A2 W2 (stepS p code) := by
  intro x h w h' w' hl hi hw hs
  unfold stepS at hs
  split at hs
  · rename_i i y hi' hy
    split at hs
    · cases hs
    split at hs
    · cases hs
    rename_i c1 c2
    have hW := hi.wt x y hy hw
    have hpu := putsL_range i
    have ht := takes64 hp i
    have hv : W2 (IntKind.i64.wrap (IntKind.i64.wrap (y - takesL p i) + putsL i)) ∧ (y < 0 → 0 ≤ IntKind.i64.wrap (IntKind.i64.wrap (y - takesL p i) + putsL i)) := by
      by_cases c : y - takesL p i ≤ 9223372036854775807
      · rw [wrap_id (x := y - takesL p i) (by omega) c] at c2 ⊢
        by_cases d : y - takesL p i + putsL i ≤ 9223372036854775807
        · rw [wrap_id (by omega) d] at c2 ⊢
          exact ⟨.inl ⟨by omega, by omega⟩, fun _ => by omega⟩
        · have : IntKind.i64.wrap (y - takesL p i + putsL i) = y - takesL p i + putsL i - 18446744073709551616 := by rw [wrap64_eq]; split <;> omega
          rw [this]
          exact ⟨.inr ⟨by omega, by omega⟩, fun _ => by omega⟩
      · have : IntKind.i64.wrap (y - takesL p i) = y - takesL p i - 18446744073709551616 := by rw [wrap64_eq]; split <;> omega
        rw [this, wrap_id (by omega) (by omega)]
        exact ⟨.inr ⟨by omega, by omega⟩, fun _ => by omega⟩
    refine step_fall hl hi ?_ hv.1 hy hw (nextL_length _ _) (fun hh => .inl (hv.2 hh)) hs
    have := hv.1; rcases this with h1 | h1
    · exact .inl ⟨by omega, h1.2⟩
    · exact .inr h1
  · cases hs
def Normal (p : GProgram) : Prop := ∀ f ∈ p.funcs, 0 ≤ f.args ∧ f.args ≤ 4
theorem takesN {p : GProgram} (h : Normal p) (i : GI2) : 0 ≤ takesL p i ∧ takesL p i ≤ 4 := by
  unfold takesL
  split
  · omega
  split
  · omega
  split
  · split
    · split
      · rename_i f hf
        exact h f (List.mem_of_getElem? hf)
      · omega
    · omega
  split
  · omega
  split <;> omega
def stepN (p : GProgram) (code : List GI2) : StepF := fun x h w => match code[x]?, h[x]? with
  | some i, some y => if y < takesL p i then none else if 8 < y - takesL p i + putsL i then none
      else putN code.length (y - takesL p i + putsL i) (nextL i x) h (w.set x false)
  | _, _ => none
theorem stepI_N {p : GProgram} (hp : Normal p) {code : List GI2} {x : Nat} {h : List Int} {w : List Bool} (hi : HInv A1 W1 h w) (hw : w[x]? = some true) : stepI p code x h w = stepN p code x h w := by
  unfold stepI stepN
  cases hi' : code[x]? with
  | none => rfl
  | some i =>
    cases hy : h[x]? with
    | none => rfl
    | some y =>
      have hW := hi.wt x y hy hw
      have ht := takesN hp i
      have hpu := putsL_range i
      simp only []
      rw [wrap_id (x := y - takesL p i) (by omega) (by omega), wrap_id (by omega) (by omega)]
      by_cases c : y < takesL p i
      · rw [if_pos (by omega), if_pos c]
      · rw [if_neg (by omega), if_neg c]
theorem stepS_N {p : GProgram} (hp : Normal p) {code : List GI2} {x : Nat} {h : List Int} {w : List Bool} (hi : HInv A1 W1 h w) (hw : w[x]? = some true) : stepS p code x h w = stepN p code x h w := by
  unfold stepS stepN
  cases hi' : code[x]? with
  | none => rfl
  | some i =>
    cases hy : h[x]? with
    | none => rfl
    | some y =>
      have hW := hi.wt x y hy hw
      have ht := takesN hp i
      have hpu := putsL_range i
      simp only []
      rw [wrap_id (x := y - takesL p i) (by omega) (by omega), wrap_id (by omega) (by omega)]
theorem stepN_inv {p : GProgram} (hp : Normal p) {code : List GI2} {x : Nat} {h h' : List Int} {w w' : List Bool} (hi : HInv A1 W1 h w) (hw : w[x]? = some true) (hs : stepN p code x h w = some (h', w')) : HInv A1 W1 h' w' ∧ h'.length = h.length := by
  unfold stepN at hs
  split at hs
  · rename_i i y hi' hy
    split at hs
    · cases hs
    split at hs
    · cases hs
    have hpu := putsL_range i
    obtain ⟨h1, h2, -⟩ := putN_inv 0 (A := A1) (W := W1) ⟨by omega, by omega⟩ ⟨by omega, by omega⟩ _ _ _ _ _ (hi.drop x) hs
    exact ⟨h1, h2⟩
  · cases hs
theorem run_N {p : GProgram} (hp : Normal p) {code : List GI2} {st : StepF} (he : ∀ (x : Nat) (h : List Int) (w : List Bool), HInv A1 W1 h w → w[x]? = some true → st x h w = stepN p code x h w) {h : List Int} {w : List Bool} {r : Option (List Int)}
    (hr : HRun st h w r) (hi : HInv A1 W1 h w) : HRun (stepN p code) h w r := by
  induction hr with
  | done h1 => exact .done h1
  | bad h1 h2 => exact .bad h1 ((he _ _ _ hi h1.1).symm.trans h2)
  | go h1 h2 _ ih =>
    have h3 := (he _ _ _ hi h1.1).symm.trans h2
    exact .go h1 h3 (ih (stepN_inv hp hi h1.1 h3).1)
theorem least_same {w : List Bool} {x y : Nat} (h1 : Least w x) (h2 : Least w y) : x = y := by
  rcases Nat.lt_trichotomy x y with h | h | h
  · exact absurd h1.1 (h2.2 x h)
  · exact h
  · exact absurd h2.1 (h1.2 y h)
theorem run_same {st : StepF} {h : List Int} {w : List Bool} {r s : Option (List Int)} (hr : HRun st h w r) (hs : HRun st h w s) : r = s := by
  induction hr generalizing s with
  | done h1 =>
    cases hs with
    | done => rfl
    | bad h2 _ => exact absurd h2.1 (h1 _)
    | go h2 _ _ => exact absurd h2.1 (h1 _)
  | bad h1 h2 =>
    cases hs with
    | done h3 => exact absurd h1.1 (h3 _)
    | bad => rfl
    | go h3 h4 _ =>
      rw [least_same h1 h3, h4] at h2; cases h2
  | go h1 h2 _ ih =>
    cases hs with
    | done h3 => exact absurd h1.1 (h3 _)
    | bad h3 h4 => rw [least_same h1 h3, h4] at h2; cases h2
    | go h3 h4 h5 =>
      rw [least_same h1 h3, h4] at h2
      cases h2
      exact ih h5
theorem Ev.idxI {α β : Type} {l : List α} {i : Int} {m : α} {g : Nat → α → Option β} {v : β} (h0 : 0 ≤ i) (h : l[i.toNat]? = some m) (h2 : Ev (fun k => g k m) v) : Ev (fun k => (L.idx l i).bind (g k)) v := by
  refine Ev.bind (a := m) (Ev.const ?_) h2
  rw [idx_of h0, h]
theorem at_mid {α : Type} (pre : List α) (n : α) (ns : List α) : (pre ++ n :: ns)[pre.length]? = some n := by simp
theorem specLeast_l (w : List Bool) (hn : w.length < 1099511627776) : ∀ (d i : Nat), w.length - i = d → i ≤ w.length → (∀ j : Nat, j < i → w[j]? ≠ some true) →
    (∃ x, Least w x ∧ Ev (fun k => spec_l04Least.l1 k w (i : Int)) (.inl (x : Int))) ∨ ((∀ j : Nat, w[j]? ≠ some true) ∧ Ev (fun k => spec_l04Least.l1 k w (i : Int)) (.inr ())) := by
  intro d
  induction d with
  | zero =>
    intro i hd hi hj
    right
    refine ⟨fun j => ?_, ?_⟩
    · rcases Nat.lt_or_ge j i with h | h
      · exact hj j h
      · rw [List.getElem?_eq_none (by omega)]; simp
    · refine Ev.succ ?_
      simp only [spec_l04Least.l1]
      exact Ev.cf (df (by omega)) Ev.pure
  | succ d ih =>
    intro i hd hi hj
    obtain ⟨b, hb⟩ := list_get (show i < w.length by omega)
    cases b with
    | true =>
      left
      refine ⟨i, ⟨hb, hj⟩, ?_⟩
      refine Ev.succ ?_
      simp only [spec_l04Least.l1]
      exact Ev.ct (dt (by omega)) (Ev.idx hb (Ev.ct rfl Ev.pure))
    | false =>
      have step : ∀ o, Ev (fun k => spec_l04Least.l1 k w ((i + 1 : Nat) : Int)) o → Ev (fun k => spec_l04Least.l1 k w (i : Int)) o := by
        intro o ho
        refine Ev.succ ?_
        simp only [spec_l04Least.l1]
        refine Ev.ct (dt (by omega)) (Ev.idx hb (Ev.cf rfl ?_))
        rw [wrap_nat (by omega)]
        exact ho
      rcases ih (i + 1) (by omega) (by omega) (fun j hji => by
        by_cases e : j = i
        · subst e; rw [hb]; simp
        · exact hj j (by omega)) with ⟨x, h1, h2⟩ | ⟨h1, h2⟩
      · exact .inl ⟨x, h1, step _ h2⟩
      · exact .inr ⟨h1, step _ h2⟩
theorem specLeast_some {w : List Bool} (hn : w.length < 1099511627776) {x : Nat} (h : Least w x) : Ev (fun k => spec_l04Least k w) (x : Int) := by
  rcases specLeast_l w hn _ 0 rfl (by omega) (fun j hj => by omega) with ⟨y, h1, h2⟩ | ⟨h1, h2⟩
  · rw [least_same h h1]
    exact Ev.bind h2 Ev.pure
  · exact absurd h.1 (h1 x)
theorem specLeast_none {w : List Bool} (hn : w.length < 1099511627776) (h : ∀ j : Nat, w[j]? ≠ some true) : Ev (fun k => spec_l04Least k w) (-1) := by
  rcases specLeast_l w hn _ 0 rfl (by omega) (fun j hj => by omega) with ⟨y, h1, h2⟩ | ⟨h1, h2⟩
  · exact absurd h1.1 (h y)
  · exact Ev.bind h2 Ev.pure
theorem specPut (fs : List GFunc) (z : GI3) (f : Int) (code : List GI2) (bad : GI3) (v : Int) (hbad : bad.c ≠ 0) (hlen : code.length < 1099511627776) :
    ∀ (ns pre : List Int) (h : List Int) (w : List Bool), (∀ n ∈ ns, 0 ≤ n) → h.length = code.length → w.length = code.length → (pre ++ ns).length < 1099511627776 →
    ∃ o, Ev (fun k => spec_l04Heights.l6 k fs z h w bad (pre ++ ns) f code v (pre.length : Int)) o ∧
      match putN code.length v ns h w with
      | some (h', w') => o = .inr (fs, z, h', w', f, code)
      | none => ∃ hh e, o = .inl (hh, e) ∧ e.c ≠ 0
  | [], pre, h, w, hns, hh, hw, hp => by
    refine ⟨.inr (fs, z, h, w, f, code), ?_, rfl⟩
    refine Ev.succ ?_
    simp only [spec_l04Heights.l6, List.append_nil]
    exact Ev.cf (df (by omega)) Ev.pure
  | n :: ns, pre, h, w, hns, hh, hw, hp => by
    have hn0 := hns n (by simp)
    have hmid := at_mid pre n ns
    have hl : (pre.length : Int) < ((pre ++ n :: ns).length : Int) := by simp; omega
    by_cases c : (code.length : Int) ≤ n
    · refine ⟨.inl (h, ⟨bad.a, bad.b, 6⟩), ?_, ?_⟩
      · refine Ev.succ ?_
        simp only [spec_l04Heights.l6]
        exact Ev.ct (dt hl) (Ev.idx hmid (Ev.ct (dt c) Ev.pure))
      · simp only [putN, if_pos c]
        exact ⟨_, _, rfl, by simp⟩
    · obtain ⟨x, hx⟩ := list_get (show n.toNat < h.length by omega)
      obtain ⟨b, hb⟩ := list_get (show n.toNat < w.length by omega)
      have ha7 : Ev (fun k => spec_l04Heights.a7 k fs z h w bad (pre ++ n :: ns) f code v (pre.length : Int)) (if 0 ≤ x ∧ x ≠ v then .inl (h, bad) else .inr (fs, z, h, w, bad, pre ++ n :: ns, f, code, v, (pre.length : Int))) := by
        unfold spec_l04Heights.a7
        refine Ev.idx hmid (Ev.idxI hn0 hx ?_)
        by_cases c1 : 0 ≤ x
        · refine Ev.ct (dt c1) ?_
          by_cases c2 : x = v
          · rw [if_neg (by omega)]
            exact Ev.cf (by simp [c2]) Ev.pure
          · rw [if_pos ⟨c1, c2⟩]
            exact Ev.ct (by simp [c2]) Ev.pure
        · rw [if_neg (by omega)]
          exact Ev.cf (df c1) Ev.pure
      have pre' : pre ++ n :: ns = (pre ++ [n]) ++ ns := by simp
      have plen : ((pre.length + 1 : Nat) : Int) = ((pre ++ [n]).length : Int) := by simp
      by_cases c1 : 0 ≤ x
      · by_cases c2 : x = v
        · obtain ⟨o, ho, hm⟩ := specPut fs z f code bad v hbad hlen ns (pre ++ [n]) h w (fun m hm => hns m (by simp [hm])) hh hw (by rw [← pre']; exact hp)
          refine ⟨o, ?_, ?_⟩
          · refine Ev.succ ?_
            simp only [spec_l04Heights.l6]
            refine Ev.ct (dt hl) (Ev.idx hmid (Ev.cf (df (by omega)) (Ev.bind ha7 ?_)))
            rw [if_neg (by omega)]
            simp only [Sum.elim_inr]
            refine Ev.idx hmid (Ev.idxI hn0 hx (Ev.cf (df (by omega)) ?_))
            rw [wrap_nat (by simp at hp; omega), plen, pre']
            exact ho
          · simp only [putN, if_neg c, hx, if_pos c1, if_pos c2]
            exact hm
        · refine ⟨.inl (h, bad), ?_, ?_⟩
          · refine Ev.succ ?_
            simp only [spec_l04Heights.l6]
            refine Ev.ct (dt hl) (Ev.idx hmid (Ev.cf (df (by omega)) (Ev.bind ha7 ?_)))
            rw [if_pos ⟨c1, c2⟩]
            exact Ev.pure
          · simp only [putN, if_neg c, hx, if_pos c1, if_neg c2]
            exact ⟨_, _, rfl, hbad⟩
      · obtain ⟨o, ho, hm⟩ := specPut fs z f code bad v hbad hlen ns (pre ++ [n]) (h.set n.toNat v) (w.set n.toNat true) (fun m hm => hns m (by simp [hm])) (by simpa using hh) (by simpa using hw) (by rw [← pre']; exact hp)
        refine ⟨o, ?_, ?_⟩
        · refine Ev.succ ?_
          simp only [spec_l04Heights.l6]
          refine Ev.ct (dt hl) (Ev.idx hmid (Ev.cf (df (by omega)) (Ev.bind ha7 ?_)))
          rw [if_neg (by omega)]
          simp only [Sum.elim_inr]
          refine Ev.idx hmid (Ev.idxI hn0 hx (Ev.ct (dt (by omega)) (Ev.idxI hn0 hb ?_)))
          rw [wrap_nat (by simp at hp; omega), plen, pre']
          exact ho
        · simp only [putN, if_neg c, hx, if_neg c1]
          exact hm
def JumpsOk (code : List GI2) : Prop := ∀ i ∈ code, (i.a = 30 ∨ i.a = 31) → 0 ≤ i.b ∧ i.b < (code.length : Int)
theorem nextL_pos {code : List GI2} (hj : JumpsOk code) {i : GI2} (hi : i ∈ code) (x : Nat) : ∀ n ∈ nextL i (x : Int), 0 ≤ n := by
  intro n hn
  unfold nextL at hn
  split at hn
  · cases hn
  split at hn
  · simp at hn; subst hn; exact (hj i hi (.inl ‹_›)).1
  split at hn
  · simp at hn
    rcases hn with rfl | rfl
    · omega
    · exact (hj i hi (.inr ‹_›)).1
  · simp at hn; omega
def SpecRes (code : List GI2) (o : List Int × GI3) : Option (List Int) → Prop
  | some hf => o = (hf, ⟨0, 0, 0⟩) ∧ hf.length = code.length
  | none => o.2.c ≠ 0
theorem specRun (p : GProgram) (f : Int) (code : List GI2) (z : GI3) (hj : JumpsOk code) (hlen : code.length < 1099511627) {h : List Int} {w : List Bool} {r : Option (List Int)} (hr : HRun (stepS p code) h w r) :
    h.length = code.length → w.length = code.length → ∃ o, Ev (fun k => spec_l04Heights.l2 k p.funcs z h w f code) o ∧ SpecRes code o r := by
  -- what a round does
  have round : ∀ (h : List Int) (w : List Bool) (x : Nat), h.length = code.length → w.length = code.length → Least w x →
      match stepS p code x h w with
      | none => ∃ o, Ev (fun k => spec_l04Heights.l2 k p.funcs z h w f code) o ∧ o.2.c ≠ 0
      | some (h', w') => ∀ o, Ev (fun k => spec_l04Heights.l2 k p.funcs z h' w' f code) o → Ev (fun k => spec_l04Heights.l2 k p.funcs z h w f code) o := by
    intro h w x hh hw hx
    have hxw := (List.getElem?_eq_some_iff.1 hx.1).1
    obtain ⟨i, hi⟩ := list_get (show x < code.length by omega)
    obtain ⟨y, hy⟩ := list_get (show x < h.length by omega)
    have him := List.mem_of_getElem? hi
    have hp : (⟨p.funcs⟩ : GProgram) = p := rfl
    -- the part ahead of the places
    have ha3 : Ev (fun k => spec_l04Heights.a3 k p.funcs z h (w.set x false) i ⟨f, x, 5⟩ f code (x : Int) (takesL p i) (IntKind.i64.wrap (IntKind.i64.wrap (y - takesL p i) + putsL i)))
        (if y < takesL p i ∨ 8 < IntKind.i64.wrap (IntKind.i64.wrap (y - takesL p i) + putsL i) then .inl (h, ⟨f, x, 5⟩) else .inr (p.funcs, z, h, w.set x false, i, ⟨f, x, 5⟩, f, code, (x : Int), IntKind.i64.wrap (IntKind.i64.wrap (y - takesL p i) + putsL i))) := by
      unfold spec_l04Heights.a3
      refine Ev.idx hy ?_
      by_cases c1 : y < takesL p i
      · rw [if_pos (.inl c1)]; exact Ev.ct (dt c1) Ev.pure
      · refine Ev.cf (df c1) ?_
        by_cases c2 : 8 < IntKind.i64.wrap (IntKind.i64.wrap (y - takesL p i) + putsL i)
        · rw [if_pos (.inr c2)]; exact Ev.ct (dt c2) Ev.pure
        · rw [if_neg (by omega)]; exact Ev.cf (df c2) Ev.pure
    unfold stepS
    simp only [hi, hy]
    by_cases c1 : y < takesL p i
    · rw [if_pos c1]
      refine ⟨(h, ⟨f, x, 5⟩), ?_, by simp⟩
      refine Ev.succ ?_
      simp only [spec_l04Heights.l2, specTakes, specPuts, Option.bind_some, hp]
      refine Ev.bind (specLeast_some (by omega) hx) (Ev.cf (df (by omega)) (Ev.idx hx.1 (Ev.idx hi ?_)))
      simp only [specTakes, specPuts, Option.bind_some, Int.toNat_natCast]
      refine Ev.idx hy (Ev.bind ha3 ?_)
      rw [if_pos (.inl c1)]
      exact Ev.pure
    · rw [if_neg c1]
      by_cases c2 : 8 < IntKind.i64.wrap (IntKind.i64.wrap (y - takesL p i) + putsL i)
      · rw [if_pos c2]
        refine ⟨(h, ⟨f, x, 5⟩), ?_, by simp⟩
        refine Ev.succ ?_
        simp only [spec_l04Heights.l2]
        refine Ev.bind (specLeast_some (by omega) hx) (Ev.cf (df (by omega)) (Ev.idx hx.1 (Ev.idx hi ?_)))
        simp only [specTakes, specPuts, Option.bind_some, Int.toNat_natCast]
        refine Ev.idx hy (Ev.bind ha3 ?_)
        rw [if_pos (.inr c2)]
        exact Ev.pure
      · rw [if_neg c2]
        generalize hv : IntKind.i64.wrap (IntKind.i64.wrap (y - takesL p i) + putsL i) = v at *
        have ha4 : Ev (fun k => spec_l04Heights.a4 k p.funcs z h (w.set x false) i ⟨f, x, 5⟩ [] f code (x : Int) v) (p.funcs, z, h, w.set x false, i, ⟨f, x, 5⟩, f, code, v, if i.a ≠ 30 ∧ i.a ≠ 33 then [(x : Int) + 1] else []) := by
          unfold spec_l04Heights.a4
          by_cases d1 : i.a = 30
          · rw [if_neg (by omega)]; exact Ev.cf (by simp [d1]) Ev.pure
          · refine Ev.ct (by simp [d1]) ?_
            by_cases d2 : i.a = 33
            · rw [if_neg (by omega)]; exact Ev.cf (by simp [d2]) Ev.pure
            · rw [if_pos ⟨d1, d2⟩]
              refine Ev.ct (by simp [d2]) (Ev.gd ⟨by simp, by simp⟩ ?_)
              rw [wrap_nat (by omega)]
              exact Ev.pure
        have ha5 : Ev (fun k => spec_l04Heights.a5 k p.funcs z h (w.set x false) i ⟨f, x, 5⟩ (if i.a ≠ 30 ∧ i.a ≠ 33 then [(x : Int) + 1] else []) f code v) (p.funcs, z, h, w.set x false, ⟨f, x, 5⟩, f, code, v, nextL i x) := by
          unfold spec_l04Heights.a5 nextL
          by_cases d1 : i.a = 30
          · refine Ev.ct (by simp [d1]) ?_
            simp only [d1]
            exact Ev.gd ⟨by simp, by simp⟩ Ev.pure
          · refine Ev.cf (by simp [d1]) ?_
            by_cases d2 : i.a = 31
            · refine Ev.ct (by simp [d2]) ?_
              simp only [d2]
              exact Ev.gd ⟨by simp, by simp⟩ Ev.pure
            · refine Ev.cf (by simp [d2]) ?_
              by_cases d3 : i.a = 33
              · simp only [d3]; exact Ev.pure
              · rw [if_pos ⟨d1, d3⟩, if_neg d3, if_neg d1, if_neg d2]; exact Ev.pure
        obtain ⟨o, ho, hm⟩ := specPut p.funcs z f code ⟨f, x, 5⟩ v (by simp) (by omega) (nextL i x) [] h (w.set x false) (nextL_pos hj him x) hh (by simpa using hw) (by have := nextL_length i x; simp; omega)
        have go : ∀ o', (Ev (fun k => (Sum.elim (fun o6l => some (o6l.1, o6l.2)) (fun o6r => spec_l04Heights.l2 k o6r.1 o6r.2.1 o6r.2.2.1 o6r.2.2.2.1 o6r.2.2.2.2.1 o6r.2.2.2.2.2) o : Option (List Int × GI3))) o') → Ev (fun k => spec_l04Heights.l2 k p.funcs z h w f code) o' := by
          intro o' h'
          refine Ev.succ ?_
          simp only [spec_l04Heights.l2]
          refine Ev.bind (specLeast_some (by omega) hx) (Ev.cf (df (by omega)) (Ev.idx hx.1 (Ev.idx hi ?_)))
          simp only [specTakes, specPuts, Option.bind_some, Int.toNat_natCast]
          refine Ev.idx hy ?_
          rw [hv]
          refine Ev.bind ha3 ?_
          rw [if_neg (by omega)]
          simp only [Sum.elim_inr]
          exact Ev.bind ha4 (Ev.bind ha5 (Ev.bind ho h'))
        cases hput : putN code.length v (nextL i x) h (w.set x false) with
        | none =>
          rw [hput] at hm
          obtain ⟨hh', e, rfl, he⟩ := hm
          exact ⟨(hh', e), go _ Ev.pure, he⟩
        | some q =>
          obtain ⟨h', w'⟩ := q
          rw [hput] at hm
          subst hm
          exact fun o ho => go o ho
  induction hr with
  | done h1 =>
    intro hh hw
    refine ⟨_, ?_, rfl, hh⟩
    refine Ev.succ ?_
    simp only [spec_l04Heights.l2]
    exact Ev.bind (specLeast_none (by omega) h1) (Ev.ct (dt (by omega)) Ev.pure)
  | bad h1 h2 =>
    intro hh hw
    have := round _ _ _ hh hw h1
    rw [h2] at this
    exact this
  | @go h h' w w' x r h1 h2 h3 ih =>
    intro hh hw
    have hr := round _ _ _ hh hw h1
    rw [h2] at hr
    have hl : h'.length = code.length ∧ w'.length = code.length := by
      unfold stepS at h2
      split at h2
      · split at h2
        · cases h2
        split at h2
        · cases h2
        obtain ⟨i1, i2, -⟩ := putN_inv 0 (A := fun _ => True) (W := fun _ => True) trivial trivial _ _ _ _ _ (show HInv (fun _ => True) (fun _ => True) h (w.set x false) from ⟨by simp; omega, fun _ _ _ => trivial, fun _ _ _ _ => trivial⟩) h2
        exact ⟨by omega, by have := i1.len; omega⟩
      · cases h2
    obtain ⟨o, ho, hm⟩ := ih hl.1 hl.2
    exact ⟨o, hr o ho, hm⟩
def PutRes (fs : List GFunc) (code : List GI2) (L : Nat) (w : List Bool) (o : (List Int × Int × Int) ⊕ (List GFunc × List Int × List Bool × List GI2 × Int)) : Option (List Int × List Bool) → Prop
  | some (h', w') => ∃ L' : Nat, o = .inr (fs, h', w', code, (L' : Int)) ∧ L' ≤ L ∧ ((∀ j : Nat, j < L → w[j]? ≠ some true) → ∀ j : Nat, j < L' → w'[j]? ≠ some true)
  | none => ∃ e, o = .inl e ∧ e.2.2 ≠ 0
theorem implPut (fs : List GFunc) (code : List GI2) (i : GI2) (x : Int) (left v : Int) (hv : IntKind.i64.wrap (left + putsL i) = v) (hlen : code.length < 1099511627776) :
    ∀ (ns pre : List Int) (h : List Int) (w : List Bool) (L : Nat), (∀ n ∈ ns, 0 ≤ n ∧ n ≤ (code.length : Int)) → h.length = code.length → w.length = code.length → (pre ++ ns).length < 1099511627776 →
    ∃ o, Ev (fun k => impl_heightsOf.l4 k fs h w i (pre ++ ns) code x left (L : Int) ((pre ++ ns).length : Int) (pre.length : Int)) o ∧ PutRes fs code L w o (putN code.length v ns h w)
  | [], pre, h, w, L, hns, hh, hw, hp => by
    refine ⟨.inr (fs, h, w, code, (L : Int)), ?_, L, rfl, Nat.le_refl _, fun g => g⟩
    refine Ev.succ ?_
    simp only [impl_heightsOf.l4, List.append_nil]
    exact Ev.cf (df (by omega)) Ev.pure
  | n :: ns, pre, h, w, L, hns, hh, hw, hp => by
    obtain ⟨hn0, hn1⟩ := hns n (by simp)
    have hmid := at_mid pre n ns
    have hl : (pre.length : Int) < ((pre ++ n :: ns).length : Int) := by simp; omega
    by_cases c : (code.length : Int) ≤ n
    · refine ⟨.inl (h, x, 6), ?_, ?_⟩
      · refine Ev.succ ?_
        simp only [impl_heightsOf.l4]
        exact Ev.ct (dt hl) (Ev.idx hmid (Ev.ct (by simp; omega) Ev.pure))
      · simp only [putN, if_pos c]
        exact ⟨_, rfl, by simp⟩
    · obtain ⟨y, hy⟩ := list_get (show n.toNat < h.length by omega)
      obtain ⟨b, hb⟩ := list_get (show n.toNat < w.length by omega)
      have ha5 : Ev (fun k => impl_heightsOf.a5 k fs h w i (pre ++ n :: ns) code x left (L : Int) n ((pre ++ n :: ns).length : Int) (pre.length : Int))
          (if 0 ≤ y ∧ y ≠ v then .inl (h, x, 5) else .inr (fs, h, w, i, pre ++ n :: ns, code, x, left, (L : Int), n, ((pre ++ n :: ns).length : Int), (pre.length : Int))) := by
        unfold impl_heightsOf.a5
        refine Ev.idxI hn0 hy ?_
        by_cases c1 : 0 ≤ y
        · refine Ev.ct (dt c1) (Ev.bind (Ev.const (implPuts i)) ?_)
          rw [hv]
          by_cases c2 : y = v
          · rw [if_neg (by omega)]
            exact Ev.cf (by simp [c2]) Ev.pure
          · rw [if_pos ⟨c1, c2⟩]
            exact Ev.ct (by simp [c2]) Ev.pure
        · rw [if_neg (by omega)]
          exact Ev.cf (df c1) Ev.pure
      have pre' : pre ++ n :: ns = (pre ++ [n]) ++ ns := by simp
      have plen : ((pre.length + 1 : Nat) : Int) = ((pre ++ [n]).length : Int) := by simp
      by_cases c1 : 0 ≤ y
      · by_cases c2 : y = v
        · obtain ⟨o, ho, hm⟩ := implPut fs code i x left v hv hlen ns (pre ++ [n]) h w L (fun m hm => hns m (by simp [hm])) hh hw (by rw [← pre']; exact hp)
          refine ⟨o, ?_, ?_⟩
          · refine Ev.succ ?_
            simp only [impl_heightsOf.l4]
            refine Ev.ct (dt hl) (Ev.idx hmid (Ev.cf (by simp; omega) (Ev.bind ha5 ?_)))
            rw [if_neg (by omega)]
            simp only [Sum.elim_inr]
            refine Ev.idxI hn0 hy (Ev.cf (df (by omega)) ?_)
            rw [wrap_nat (by simp at hp; omega), plen, pre']
            exact ho
          · simp only [putN, if_neg c, hy, if_pos c1, if_pos c2]
            exact hm
        · refine ⟨.inl (h, x, 5), ?_, ?_⟩
          · refine Ev.succ ?_
            simp only [impl_heightsOf.l4]
            refine Ev.ct (dt hl) (Ev.idx hmid (Ev.cf (by simp; omega) (Ev.bind ha5 ?_)))
            rw [if_pos ⟨c1, c2⟩]
            exact Ev.pure
          · simp only [putN, if_neg c, hy, if_pos c1, if_neg c2]
            exact ⟨_, rfl, by simp⟩
      · obtain ⟨o, ho, hm⟩ := implPut fs code i x left v hv hlen ns (pre ++ [n]) (h.set n.toNat v) (w.set n.toNat true) (min n.toNat L) (fun m hm => hns m (by simp [hm])) (by simpa using hh) (by simpa using hw) (by rw [← pre']; exact hp)
        refine ⟨o, ?_, ?_⟩
        · refine Ev.succ ?_
          simp only [impl_heightsOf.l4]
          refine Ev.ct (dt hl) (Ev.idx hmid (Ev.cf (by simp; omega) (Ev.bind ha5 ?_)))
          rw [if_neg (by omega)]
          simp only [Sum.elim_inr]
          refine Ev.idxI hn0 hy (Ev.ct (dt (by omega)) (Ev.bind (Ev.const (implPuts i)) (Ev.idxI hn0 hb ?_)))
          rw [hv, wrap_nat (by simp at hp; omega), plen, pre']
          have : (if decide (n < (L : Int)) = true then n else (L : Int)) = ((min n.toNat L : Nat) : Int) := by
            by_cases d : n < (L : Int)
            · rw [if_pos (by simpa using d)]; omega
            · rw [if_neg (by simpa using d)]; omega
          rw [this]
          exact ho
        · simp only [putN, if_neg c, hy, if_neg c1]
          revert hm
          cases putN code.length v ns (h.set n.toNat v) (w.set n.toNat true) with
          | none => exact fun hm => hm
          | some q =>
            rintro ⟨L', h1, h2, h3⟩
            refine ⟨L', h1, by omega, fun g => h3 fun j hj => ?_⟩
            rw [List.getElem?_set_ne (by omega)]
            exact g j (by omega)
def ImplRes (code : List GI2) (o : (List Int × Int × Int) ⊕ List Int) : Option (List Int) → Prop
  | some hf => o = .inr hf ∧ hf.length = code.length
  | none => ∃ e, o = .inl e ∧ e.2.2 ≠ 0
theorem implSkip (p : GProgram) (code : List GI2) (hlen : code.length < 1099511627) (h : List Int) (w : List Bool) (hw : w.length = code.length) (o : (List Int × Int × Int) ⊕ List Int) : ∀ (d x y : Nat), y - x = d → x ≤ y → y ≤ code.length → (∀ j : Nat, x ≤ j → j < y → w[j]? ≠ some true) →
    Ev (fun k => impl_heightsOf.l2 k p.funcs h w code (y : Int)) o → Ev (fun k => impl_heightsOf.l2 k p.funcs h w code (x : Int)) o := by
  intro d
  induction d with
  | zero =>
    intro x y hd hxy hy hj ho
    have : x = y := by omega
    subst this
    exact ho
  | succ d ih =>
    intro x y hd hxy hy hj ho
    have h1 := ih (x + 1) y (by omega) (by omega) hy (fun j h1 h2 => hj j (by omega) h2) ho
    obtain ⟨b, hb⟩ := list_get (show x < w.length by omega)
    have : b = false := by
      have := hj x (Nat.le_refl _) (by omega)
      rw [hb] at this
      cases b
      · rfl
      · exact absurd rfl this
    subst this
    refine Ev.succ ?_
    simp only [impl_heightsOf.l2]
    refine Ev.ct (dt (by omega)) (Ev.idx hb (Ev.ct rfl ?_))
    rw [wrap_nat (by omega)]
    exact h1
theorem nextL_in {code : List GI2} (hj : JumpsOk code) {i : GI2} {x : Nat} (hi : code[x]? = some i) : ∀ n ∈ nextL i (x : Int), 0 ≤ n ∧ n ≤ (code.length : Int) := by
  intro n hn
  have hx := (List.getElem?_eq_some_iff.1 hi).1
  refine ⟨nextL_pos hj (List.mem_of_getElem? hi) x n hn, ?_⟩
  unfold nextL at hn
  split at hn
  · cases hn
  split at hn
  · simp at hn; subst hn; have := (hj i (List.mem_of_getElem? hi) (.inl ‹_›)).2; omega
  split at hn
  · simp at hn
    rcases hn with rfl | rfl
    · omega
    · have := (hj i (List.mem_of_getElem? hi) (.inr ‹_›)).2; omega
  · simp at hn; omega
theorem implRun (p : GProgram) (code : List GI2) (hj : JumpsOk code) (hlen : code.length < 1000000) {h : List Int} {w : List Bool} {r : Option (List Int)} (hr : HRun (stepI p code) h w r) :
    h.length = code.length → w.length = code.length → ∀ x : Nat, x ≤ code.length → (∀ j : Nat, j < x → w[j]? ≠ some true) → ∃ o, Ev (fun k => impl_heightsOf.l2 k p.funcs h w code (x : Int)) o ∧ ImplRes code o r := by
  have round : ∀ (h : List Int) (w : List Bool) (x : Nat), h.length = code.length → w.length = code.length → Least w x →
      match stepI p code x h w with
      | none => ∃ o, Ev (fun k => impl_heightsOf.l2 k p.funcs h w code (x : Int)) o ∧ ∃ e, o = .inl e ∧ e.2.2 ≠ 0
      | some (h', w') => ∃ L' : Nat, L' ≤ x ∧ (∀ j : Nat, j < L' → w'[j]? ≠ some true) ∧ ∀ o, Ev (fun k => impl_heightsOf.l2 k p.funcs h' w' code (L' : Int)) o → Ev (fun k => impl_heightsOf.l2 k p.funcs h w code (x : Int)) o := by
    intro h w x hh hw hx
    have hxw := (List.getElem?_eq_some_iff.1 hx.1).1
    obtain ⟨i, hi⟩ := list_get (show x < code.length by omega)
    obtain ⟨y, hy⟩ := list_get (show x < h.length by omega)
    generalize hq : IntKind.i64.wrap (y - takesL p i) = q
    generalize hv : IntKind.i64.wrap (q + putsL i) = v
    have ha3 : Ev (fun k => impl_heightsOf.a3 k p.funcs h (w.set x false) i code (x : Int) q) (if q < 0 ∨ 8 < v then .inl (h, (x : Int), 5) else .inr (p.funcs, h, w.set x false, i, code, (x : Int), q)) := by
      unfold impl_heightsOf.a3
      by_cases c1 : q < 0
      · rw [if_pos (.inl c1)]; exact Ev.ct (dt c1) Ev.pure
      · refine Ev.cf (df c1) (Ev.bind (Ev.const (implPuts i)) ?_)
        rw [hv]
        by_cases c2 : 8 < v
        · rw [if_pos (.inr c2)]; exact Ev.ct (dt c2) Ev.pure
        · rw [if_neg (by omega)]; exact Ev.cf (df c2) Ev.pure
    unfold stepI
    simp only [hi, hy, hq, hv]
    by_cases c : q < 0 ∨ 8 < v
    · have : (if q < 0 then none else if 8 < v then none else putN code.length v (nextL i x) h (w.set x false)) = none := by
        rcases c with c | c
        · rw [if_pos c]
        · by_cases d : q < 0
          · rw [if_pos d]
          · rw [if_neg d, if_pos c]
      rw [this]
      refine ⟨.inl (h, (x : Int), 5), ?_, _, rfl, by simp⟩
      refine Ev.succ ?_
      simp only [impl_heightsOf.l2]
      refine Ev.ct (dt (by omega)) (Ev.idx hx.1 (Ev.cf rfl (Ev.idx hi (Ev.idx hy ?_))))
      simp only [implTakes, Option.bind_some, Int.toNat_natCast, hq]
      refine Ev.bind ha3 ?_
      rw [if_pos c]
      exact Ev.pure
    · rw [if_neg (by omega), if_neg (by omega)]
      obtain ⟨o, ho, hm⟩ := implPut p.funcs code i (x : Int) q v hv (by omega) (nextL i x) [] h (w.set x false) x (nextL_in hj hi) hh (by simpa using hw) (by have := nextL_length i x; simp; omega)
      have go : ∀ o', Ev (fun k => (Sum.elim (fun o4l => some (.inl (o4l.1, o4l.2.1, o4l.2.2))) (fun o4r => impl_heightsOf.l2 k o4r.1 o4r.2.1 o4r.2.2.1 o4r.2.2.2.1 o4r.2.2.2.2) o : Option ((List Int × Int × Int) ⊕ List Int))) o' → Ev (fun k => impl_heightsOf.l2 k p.funcs h w code (x : Int)) o' := by
        intro o' h'
        refine Ev.succ ?_
        simp only [impl_heightsOf.l2]
        refine Ev.ct (dt (by omega)) (Ev.idx hx.1 (Ev.cf rfl (Ev.idx hi (Ev.idx hy ?_))))
        simp only [implTakes, Option.bind_some, Int.toNat_natCast, hq]
        refine Ev.bind ha3 ?_
        rw [if_neg c]
        simp only [Sum.elim_inr, implNext i x (by omega), Option.bind_some]
        exact Ev.bind ho h'
      cases hput : putN code.length v (nextL i x) h (w.set x false) with
      | none =>
        rw [hput] at hm
        obtain ⟨e, rfl, he⟩ := hm
        exact ⟨.inl e, go _ Ev.pure, e, rfl, he⟩
      | some z =>
        obtain ⟨h', w'⟩ := z
        rw [hput] at hm
        obtain ⟨L', rfl, h2, h3⟩ := hm
        refine ⟨L', h2, h3 fun j hj => ?_, fun o ho => go o ho⟩
        rw [List.getElem?_set_ne (by omega)]
        exact hx.2 j hj
  induction hr with
  | @done h w h1 =>
    intro hh hw x hx hj
    refine ⟨.inr h, implSkip p code (by omega) h w hw _ _ x code.length rfl hx (Nat.le_refl _) (fun j _ _ => h1 j) ?_, rfl, hh⟩
    refine Ev.succ ?_
    simp only [impl_heightsOf.l2]
    exact Ev.cf (df (by omega)) Ev.pure
  | @bad h w y h1 h2 =>
    intro hh hw x hx hj
    have hyw := (List.getElem?_eq_some_iff.1 h1.1).1
    have hxy : x ≤ y := by
      rcases Nat.lt_or_ge y x with hlt | hge
      · exact absurd h1.1 (hj y hlt)
      · exact hge
    have := round _ _ _ hh hw h1
    rw [h2] at this
    obtain ⟨o, ho, he⟩ := this
    exact ⟨o, implSkip p code (by omega) h w hw _ _ x y rfl hxy (by omega) (fun j _ hj2 => h1.2 j hj2) ho, he⟩
  | @go h h' w w' y r h1 h2 h3 ih =>
    intro hh hw x hx hj
    have hyw := (List.getElem?_eq_some_iff.1 h1.1).1
    have hxy : x ≤ y := by
      rcases Nat.lt_or_ge y x with hlt | hge
      · exact absurd h1.1 (hj y hlt)
      · exact hge
    have hr := round _ _ _ hh hw h1
    rw [h2] at hr
    obtain ⟨L', l1, l2, l3⟩ := hr
    have hl : h'.length = code.length ∧ w'.length = code.length := by
      unfold stepI at h2
      split at h2
      · split at h2
        · cases h2
        split at h2
        · cases h2
        obtain ⟨i1, i2, -⟩ := putN_inv 0 (A := fun _ => True) (W := fun _ => True) trivial trivial _ _ _ _ _ (show HInv (fun _ => True) (fun _ => True) h (w.set y false) from ⟨by simp; omega, fun _ _ _ => trivial, fun _ _ _ _ => trivial⟩) h2
        exact ⟨by omega, by have := i1.len; omega⟩
      · cases h2
    obtain ⟨o, ho, hm⟩ := ih hl.1 hl.2 L' (by omega) l2
    exact ⟨o, implSkip p code (by omega) h w hw _ _ x y rfl hxy (by omega) (fun j _ hj2 => h1.2 j hj2) (l3 o ho), hm⟩
end Go.Proofs.Ytdlaplgofgklnaa
namespace Go.Proofs.Ytdlaplgofgklnaa
open Go.Proofs Go.Proofs.Ytdlaplgofgklnaa.L
set_option linter.unusedVariables false
set_option linter.unusedSimpArgs false
set_option maxRecDepth 10000
def opKnown (a : Int) : Bool := decide ((1 ≤ a ∧ a ≤ 5) ∨ (10 ≤ a ∧ a ≤ 38))
def insOk (p : GProgram) (m : GFunc) (i : GI2) : Bool :=
  if i.a = 1 then true else if i.a = 2 ∨ i.a = 3 then decide (0 ≤ i.b ∧ i.b < m.locals) else if i.a = 30 ∨ i.a = 31 then decide (0 ≤ i.b ∧ i.b < (m.code.length : Int))
  else if i.a = 32 then decide (0 ≤ i.b ∧ i.b < (p.funcs.length : Int)) else (opKnown i.a && (i.b == 0))
theorem specOp (k : Nat) (a : Int) : ∃ t, spec_OpName k a = some t ∧ (t.toList == (⟨#[]⟩ : ByteArray).toList) = !opKnown a := by
  rcases op_cases a with (rfl | rfl | rfl | rfl | rfl | rfl | rfl | rfl | rfl | rfl | rfl | rfl | rfl | rfl | rfl | rfl | rfl | rfl | rfl | rfl | rfl | rfl | rfl | rfl | rfl | rfl | rfl | rfl | rfl | rfl | rfl | rfl | rfl | rfl | rfl | rfl | rfl | rfl | rfl) | h
  all_goals (try exact ⟨_, rfl, by decide +kernel⟩)
  refine ⟨⟨#[]⟩, ?_, ?_⟩
  · unfold spec_OpName spec_OpName.a1
    rcases h with h | h
    · simp [show ¬ 1 ≤ a by omega, show ¬ 10 ≤ a by omega]
    · simp [show 1 ≤ a by omega, show ¬ a ≤ 5 by omega, show 10 ≤ a by omega, show ¬ a ≤ 38 by omega]
  · have : opKnown a = false := by unfold opKnown; rw [decide_eq_false_iff_not]; omega
    rw [this]; simp
theorem implOp (a : Int) : ∃ t, impl_OpName a = some t ∧ (t.toList == (⟨#[]⟩ : ByteArray).toList) = !opKnown a := by
  rcases op_cases a with (rfl | rfl | rfl | rfl | rfl | rfl | rfl | rfl | rfl | rfl | rfl | rfl | rfl | rfl | rfl | rfl | rfl | rfl | rfl | rfl | rfl | rfl | rfl | rfl | rfl | rfl | rfl | rfl | rfl | rfl | rfl | rfl | rfl | rfl | rfl | rfl | rfl | rfl | rfl) | h
  all_goals (try exact ⟨_, rfl, by decide +kernel⟩)
  refine ⟨⟨#[]⟩, ?_, ?_⟩
  · unfold impl_OpName impl_in
    rcases h with h | h
    · simp [show ¬ 0 ≤ a by omega]
    · simp [show 0 ≤ a by omega, show ¬ a ≤ 38 by omega]
  · have : opKnown a = false := by unfold opKnown; rw [decide_eq_false_iff_not]; omega
    rw [this]; simp
theorem specIns (k : Nat) {p : GProgram} {f : Nat} {m : GFunc} (hm : p.funcs[f]? = some m) (i : GI2) : spec_InsRight k p (f : Int) i = some (insOk p m i) := by
  obtain ⟨a, b⟩ := i
  have hf := (List.getElem?_eq_some_iff.1 hm).1
  obtain ⟨t, ht, hk⟩ := specOp k a
  unfold spec_InsRight spec_InsRight.a1 spec_InsRight.a2 spec_InsRight.a3 spec_InsRight.a4 insOk
  simp only [show ¬ (f : Int) < 0 by omega, show ¬ (f : Int) ≥ (p.funcs.length : Int) by omega, decide_false, cond_false, Option.bind_some, Sum.elim_inr, idx_nat, hm, ht, hk]
  by_cases h1 : a = 1
  · simp [h1]
  have e1 : (a == 1) = false := by simpa using h1
  by_cases h2 : a = 2
  · by_cases hb : 0 ≤ b <;> simp [h2, hb, idx_nat, hm]
  have e2 : (a == 2) = false := by simpa using h2
  by_cases h3 : a = 3
  · by_cases hb : 0 ≤ b <;> simp [h3, hb, idx_nat, hm]
  have e3 : (a == 3) = false := by simpa using h3
  by_cases h4 : a = 30
  · by_cases hb : 0 ≤ b <;> simp [h4, hb, idx_nat, hm]
  have e4 : (a == 30) = false := by simpa using h4
  by_cases h5 : a = 31
  · by_cases hb : 0 ≤ b <;> simp [h5, hb, idx_nat, hm]
  have e5 : (a == 31) = false := by simpa using h5
  by_cases h6 : a = 32
  · by_cases hb : 0 ≤ b <;> simp [h6, hb, idx_nat, hm]
  have e6 : (a == 32) = false := by simpa using h6
  simp only [e1, e2, e3, e4, e5, e6, h1, h2, h3, h4, h5, h6, cond_false, Option.bind_some, Sum.elim_inr, if_false, or_self]
  simp only [ht, hk, Option.bind_some, Bool.not_not]
  cases opKnown a <;> simp
theorem implIns (k : Nat) {p : GProgram} {f : Nat} {m : GFunc} (hm : p.funcs[f]? = some m) (i : GI2) : impl_InsRight k p (f : Int) i = some (insOk p m i) := by
  obtain ⟨a, b⟩ := i
  have hf := (List.getElem?_eq_some_iff.1 hm).1
  obtain ⟨t, ht, hk⟩ := implOp a
  unfold impl_InsRight impl_InsRight.a1 impl_InsRight.a2 impl_InsRight.a3 impl_hasFunc insOk
  simp only [show (f : Int) ≥ 0 by omega, show (f : Int) < (p.funcs.length : Int) by omega, decide_true, cond_true, cond_false, Bool.not_true, Option.bind_some, Sum.elim_inr, idx_nat, hm, ht, hk]
  by_cases h1 : a = 1
  · simp [h1]
  have e1 : (a == 1) = false := by simpa using h1
  by_cases h2 : a = 2
  · by_cases hb : 0 ≤ b <;> simp [h2, hb, idx_nat, hm]
  have e2 : (a == 2) = false := by simpa using h2
  by_cases h3 : a = 3
  · by_cases hb : 0 ≤ b <;> simp [h3, hb, idx_nat, hm]
  have e3 : (a == 3) = false := by simpa using h3
  by_cases h4 : a = 30
  · by_cases hb : 0 ≤ b <;> simp [h4, hb, idx_nat, hm]
  have e4 : (a == 30) = false := by simpa using h4
  by_cases h5 : a = 31
  · by_cases hb : 0 ≤ b <;> simp [h5, hb, idx_nat, hm]
  have e5 : (a == 31) = false := by simpa using h5
  by_cases h6 : a = 32
  · by_cases hb : 0 ≤ b <;> simp [h6, hb, idx_nat, hm]
  have e6 : (a == 32) = false := by simpa using h6
  simp only [e1, e2, e3, e4, e5, e6, h1, h2, h3, h4, h5, h6, cond_false, Option.bind_some, Sum.elim_inr, if_false, or_self]
  simp only [ht, hk, Option.bind_some, Bool.not_not]
  cases opKnown a <;> simp
theorem insOk_jump {p : GProgram} {m : GFunc} {i : GI2} (h : insOk p m i = true) (hj : i.a = 30 ∨ i.a = 31) : 0 ≤ i.b ∧ i.b < (m.code.length : Int) := by
  unfold insOk at h
  rw [if_neg (by omega), if_neg (by omega), if_pos hj] at h
  simpa using h
def h0 (n : Nat) : List Int := (List.replicate n (-1)).set 0 0
def w0 (n : Nat) : List Bool := (List.replicate n false).set 0 true
theorem h0_len (n : Nat) : (h0 n).length = n := by simp [h0]
theorem w0_len (n : Nat) : (w0 n).length = n := by simp [w0]
theorem h0_inv {A W : Int → Prop} (n : Nat) (a1 : A (-1)) (a0 : A 0) (hw : W 0) : HInv A W (h0 n) (w0 n) := by
  refine ⟨by rw [h0_len, w0_len], fun j x hx => ?_, fun j x hx hj => ?_⟩
  · by_cases e : 0 = j
    · subst e
      unfold h0 at hx
      by_cases hn : 0 < n
      · rw [List.getElem?_set_self (by simpa using hn)] at hx; cases hx; exact a0
      · rw [List.getElem?_eq_none (by simp; omega)] at hx; cases hx
    · unfold h0 at hx
      rw [List.getElem?_set_ne e, List.getElem?_replicate] at hx
      split at hx
      · cases hx; exact a1
      · cases hx
  · by_cases e : 0 = j
    · subst e
      unfold h0 at hx
      by_cases hn : 0 < n
      · rw [List.getElem?_set_self (by simpa using hn)] at hx; cases hx; exact hw
      · rw [List.getElem?_eq_none (by simp; omega)] at hx; cases hx
    · unfold w0 at hj
      rw [List.getElem?_set_ne e, List.getElem?_replicate] at hj
      split at hj <;> cases hj
theorem specFill (fs : List GFunc) (z : GI3) (f : Int) (code : List GI2) (n : Nat) (hn : n < 1000000) : ∀ (d i : Nat) (acc : List Int), n - i = d → i ≤ n → acc.length = n → (∀ j : Nat, j < i → acc[j]? = some (-1)) →
    Ev (fun k => spec_l04Heights.l1 k fs z acc f code (i : Int)) (fs, z, List.replicate n (-1), f, code) := by
  intro d
  induction d with
  | zero =>
    intro i acc hd hi ha hj
    have : acc = List.replicate n (-1) := by
      apply List.ext_getElem?
      intro j
      rcases Nat.lt_or_ge j n with h | h
      · rw [hj j (by omega), List.getElem?_replicate, if_pos h]
      · rw [List.getElem?_eq_none (by omega), List.getElem?_eq_none (by simp; omega)]
    rw [this]
    refine Ev.succ ?_
    simp only [spec_l04Heights.l1]
    exact Ev.cf (df (by simp; omega)) Ev.pure
  | succ d ih =>
    intro i acc hd hi ha hj
    obtain ⟨m, hm⟩ := list_get (show i < acc.length by omega)
    refine Ev.succ ?_
    simp only [spec_l04Heights.l1]
    refine Ev.ct (dt (by omega)) (Ev.idx hm ?_)
    rw [wrap_nat (by omega), Int.toNat_natCast]
    refine ih (i + 1) _ (by omega) (by omega) (by simpa using ha) (fun j hji => ?_)
    by_cases e : i = j
    · subst e; rw [List.getElem?_set_self (by omega)]
    · rw [List.getElem?_set_ne e]; exact hj j (by omega)
theorem implFill (fs : List GFunc) (w : List Bool) (code : List GI2) (n : Nat) (hn : n < 1000000) : ∀ (d i : Nat) (acc : List Int), n - i = d → i ≤ n → acc.length = n → (∀ j : Nat, j < i → acc[j]? = some (-1)) →
    Ev (fun k => impl_heightsOf.l1 k fs acc w code (n : Int) (i : Int)) (fs, List.replicate n (-1), w, code) := by
  intro d
  induction d with
  | zero =>
    intro i acc hd hi ha hj
    have : acc = List.replicate n (-1) := by
      apply List.ext_getElem?
      intro j
      rcases Nat.lt_or_ge j n with h | h
      · rw [hj j (by omega), List.getElem?_replicate, if_pos h]
      · rw [List.getElem?_eq_none (by omega), List.getElem?_eq_none (by simp; omega)]
    rw [this]
    refine Ev.succ ?_
    simp only [impl_heightsOf.l1]
    exact Ev.cf (df (by omega)) Ev.pure
  | succ d ih =>
    intro i acc hd hi ha hj
    obtain ⟨m, hm⟩ := list_get (show i < acc.length by omega)
    refine Ev.succ ?_
    simp only [impl_heightsOf.l1]
    refine Ev.ct (dt (by omega)) (Ev.idx hm ?_)
    rw [wrap_nat (by omega), Int.toNat_natCast]
    refine ih (i + 1) _ (by omega) (by omega) (by simpa using ha) (fun j hji => ?_)
    by_cases e : i = j
    · subst e; rw [List.getElem?_set_self (by omega)]
    · rw [List.getElem?_set_ne e]; exact hj j (by omega)
theorem rep_get {α : Type} {n : Nat} {x : α} (h : 1 ≤ n) : (List.replicate n x)[(0 : Int).toNat]? = some x := by
  rw [List.getElem?_replicate, if_pos (by simp; omega)]
theorem specHeights {p : GProgram} {f : Nat} {m : GFunc} (hm : p.funcs[f]? = some m) (hj : JumpsOk m.code) (h1 : 1 ≤ m.code.length) (h2 : m.code.length ≤ 60) {r : Option (List Int)}
    (hr : HRun (stepS p m.code) (h0 m.code.length) (w0 m.code.length) r) : ∃ o, Ev (fun k => spec_l04Heights k p (f : Int)) o ∧ SpecRes m.code o r := by
  obtain ⟨o, ho, hres⟩ := specRun p (f : Int) m.code ⟨0, 0, 0⟩ hj (by omega) hr (h0_len _) (w0_len _)
  refine ⟨o, ?_, hres⟩
  unfold spec_l04Heights
  refine Ev.idx hm (Ev.gd ⟨by omega, by omega, by omega⟩ (Ev.bind (specFill p.funcs ⟨0, 0, 0⟩ (f : Int) m.code m.code.length (by omega) _ 0 _ rfl (by omega) (by simp) (fun j hj => by omega)) ?_))
  refine Ev.idxI (by omega) (rep_get h1) (Ev.gd ⟨by simp, by simp; omega, by simp; omega⟩ (Ev.idxI (by omega) (rep_get h1) (Ev.bind ho Ev.pure)))
def HRes (code : List GI2) (o : List Int × Int × Int) : Option (List Int) → Prop
  | some hf => o = (hf, 0, 0) ∧ hf.length = code.length
  | none => o.2.2 ≠ 0
theorem implHeights {p : GProgram} {f : Nat} {m : GFunc} (hm : p.funcs[f]? = some m) (hj : JumpsOk m.code) (h1 : 1 ≤ m.code.length) (h2 : m.code.length ≤ 60) {r : Option (List Int)}
    (hr : HRun (stepI p m.code) (h0 m.code.length) (w0 m.code.length) r) : ∃ o, Ev (fun k => impl_heightsOf k p (f : Int)) o ∧ HRes m.code o r := by
  obtain ⟨o, ho, hres⟩ := implRun p m.code hj (by omega) hr (h0_len _) (w0_len _) 0 (by omega) (fun j hj => by omega)
  have key : ∀ o', (Ev (fun _ => (Sum.elim (fun o2l => some (o2l.1, o2l.2.1, o2l.2.2)) (fun o2r => some (o2r, 0, 0)) o : Option (List Int × Int × Int))) o') → Ev (fun k => impl_heightsOf k p (f : Int)) o' := by
    intro o' h'
    unfold impl_heightsOf
    refine Ev.idx hm (Ev.gd ⟨by omega, by omega, by omega⟩ (Ev.gd ⟨by omega, by omega, by omega⟩ (Ev.bind (implFill p.funcs _ m.code m.code.length (by omega) _ 0 _ rfl (by omega) (by simp) (fun j hj => by omega)) ?_)))
    exact Ev.idxI (by omega) (rep_get h1) (Ev.idxI (by omega) (rep_get h1) (Ev.bind ho h'))
  cases r with
  | none =>
    obtain ⟨e, rfl, he⟩ := hres
    exact ⟨_, key _ Ev.pure, he⟩
  | some hf =>
    obtain ⟨rfl, hl⟩ := hres
    exact ⟨_, key _ Ev.pure, rfl, hl⟩
theorem heights_both {p : GProgram} (ha : Args64 p) {f : Nat} {m : GFunc} (hm : p.funcs[f]? = some m) (hj : JumpsOk m.code) (h1 : 1 ≤ m.code.length) (h2 : m.code.length ≤ 60) :
    ∃ rI rS oI oS, HRun (stepI p m.code) (h0 m.code.length) (w0 m.code.length) rI ∧ Ev (fun k => impl_heightsOf k p (f : Int)) oI ∧ HRes m.code oI rI ∧ Ev (fun k => spec_l04Heights k p (f : Int)) oS ∧ SpecRes m.code oS rS ∧ (Normal p → rI = rS ∧ HRun (stepN p m.code) (h0 m.code.length) (w0 m.code.length) rI) := by
  obtain ⟨rI, hI⟩ := run_ex (goodI p m.code ha) _ _ _ rfl (h0_len _) (h0_inv m.code.length (by omega) (by omega) (by omega))
  obtain ⟨rS, hS⟩ := run_ex (goodS p m.code ha) _ _ _ rfl (h0_len _) (h0_inv m.code.length (by omega) (by omega) (by omega))
  obtain ⟨oI, e1, e2⟩ := implHeights hm hj h1 h2 hI
  obtain ⟨oS, e3, e4⟩ := specHeights hm hj h1 h2 hS
  refine ⟨rI, rS, oI, oS, hI, e1, e2, e3, e4, fun hN => ?_⟩
  have hi : HInv A1 W1 (h0 m.code.length) (w0 m.code.length) := h0_inv m.code.length (by omega) (by omega) (by omega)
  have i1 := run_N hN (fun x h w hh hw => stepI_N hN hh hw) hI hi
  have i2 := run_N hN (fun x h w hh hw => stepS_N hN hh hw) hS hi
  exact ⟨run_same i1 i2, i1⟩
end Go.Proofs.Ytdlaplgofgklnaa
namespace Go.Proofs.Ytdlaplgofgklnaa
open Go.Proofs Go.Proofs.Ytdlaplgofgklnaa.L
set_option linter.unusedVariables false
set_option linter.unusedSimpArgs false
structure FormOk (p : GProgram) (m : GFunc) : Prop where
  args : 0 ≤ m.args ∧ m.args ≤ 4
  locals : m.args ≤ m.locals ∧ m.locals ≤ 8
  code : 1 ≤ m.code.length ∧ m.code.length ≤ 60
  ins : ∀ i ∈ m.code, insOk p m i = true
theorem FormOk.jumps {p : GProgram} {m : GFunc} (h : FormOk p m) : JumpsOk m.code := fun i hi hj => insOk_jump (h.ins i hi) hj
abbrev RunI (p : GProgram) (m : GFunc) (r : Option (List Int)) : Prop := HRun (stepI p m.code) (h0 m.code.length) (w0 m.code.length) r
abbrev RunS (p : GProgram) (m : GFunc) (r : Option (List Int)) : Prop := HRun (stepS p m.code) (h0 m.code.length) (w0 m.code.length) r
abbrev RunN (p : GProgram) (m : GFunc) (r : Option (List Int)) : Prop := HRun (stepN p m.code) (h0 m.code.length) (w0 m.code.length) r
theorem ins_from {p : GProgram} {m : GFunc} : (∀ i ∈ m.code, insOk p m i = true) ∨ ∃ x i, m.code[x]? = some i ∧ insOk p m i = false ∧ ∀ (y : Nat) (j : GI2), y < x → m.code[y]? = some j → insOk p m j = true := by
  by_cases h : ∀ i ∈ m.code, insOk p m i = true
  · exact .inl h
  · right
    obtain ⟨x, i, hx, hi⟩ : ∃ x i, m.code[x]? = some i ∧ insOk p m i = false := by
      have : ∃ i, i ∈ m.code ∧ insOk p m i = false := by
        refine Classical.byContradiction fun hh => h fun i hi => ?_
        cases e : insOk p m i with
        | true => rfl
        | false => exact absurd ⟨i, hi, e⟩ hh
      obtain ⟨i, hi, he⟩ := this
      obtain ⟨x, hx⟩ := List.getElem?_of_mem hi
      exact ⟨x, i, hx, he⟩
    induction x using Nat.strongRecOn generalizing i with
    | _ x ih =>
      by_cases c : ∃ y j, y < x ∧ m.code[y]? = some j ∧ insOk p m j = false
      · obtain ⟨y, j, hy, hj, he⟩ := c
        exact ih y hy j hj he
      · refine ⟨x, i, hx, hi, fun y j hy hj => ?_⟩
        cases e : insOk p m j with
        | true => rfl
        | false => exact absurd ⟨y, j, hy, hj, e⟩ c
theorem implInsLoop {p : GProgram} {f : Nat} {m : GFunc} (hm : p.funcs[f]? = some m) (hl : m.code.length ≤ 60) (z : GI3) (hs : List (List Int)) (fs : List GFunc) (L J : Int) (h : ∀ i ∈ m.code, insOk p m i = true) : ∀ (d x : Nat), m.code.length - x = d → x ≤ m.code.length →
    Ev (fun k => impl_verify.l5 k p.funcs z hs (f : Int) fs L J m.code (m.code.length : Int) (x : Int)) (.inr (p.funcs, z, hs, (f : Int), fs, L, J)) := by
  intro d
  induction d with
  | zero =>
    intro x hd hx
    refine Ev.succ ?_
    simp only [impl_verify.l5]
    exact Ev.cf (df (by omega)) Ev.pure
  | succ d ih =>
    intro x hd hx
    obtain ⟨i, hi⟩ := list_get (show x < m.code.length by omega)
    refine Ev.succ ?_
    simp only [impl_verify.l5]
    refine Ev.ct (dt (by omega)) (Ev.idx hi (Ev.bind (Ev.of fun k => implIns k hm i) (Ev.cf (by rw [h i (List.mem_of_getElem? hi)]; rfl) ?_)))
    rw [wrap_nat (by omega)]
    exact ih (x + 1) (by omega) (by omega)
theorem implInsBad {p : GProgram} {f : Nat} {m : GFunc} (hm : p.funcs[f]? = some m) (hl : m.code.length ≤ 60) (z : GI3) (hs : List (List Int)) (fs : List GFunc) (L J : Int) {y : Nat} {b : GI2} (hy : m.code[y]? = some b) (hb : insOk p m b = false) (h : ∀ (x : Nat) (j : GI2), x < y → m.code[x]? = some j → insOk p m j = true) : ∀ (d x : Nat), y - x = d → x ≤ y →
    Ev (fun k => impl_verify.l5 k p.funcs z hs (f : Int) fs L J m.code (m.code.length : Int) (x : Int)) (.inl (⟨(f : Int), (y : Int), 1⟩, [])) := by
  have hyl := (List.getElem?_eq_some_iff.1 hy).1
  intro d
  induction d with
  | zero =>
    intro x hd hx
    have : x = y := by omega
    subst this
    refine Ev.succ ?_
    simp only [impl_verify.l5]
    exact Ev.ct (dt (by omega)) (Ev.idx hy (Ev.bind (Ev.of fun k => implIns k hm b) (Ev.ct (by rw [hb]; rfl) Ev.pure)))
  | succ d ih =>
    intro x hd hx
    obtain ⟨i, hi⟩ := list_get (show x < m.code.length by omega)
    refine Ev.succ ?_
    simp only [impl_verify.l5]
    refine Ev.ct (dt (by omega)) (Ev.idx hi (Ev.bind (Ev.of fun k => implIns k hm i) (Ev.cf (by rw [h x i (by omega) hi]; rfl) ?_)))
    rw [wrap_nat (by omega)]
    exact ih (x + 1) (by omega) (by omega)
theorem specInsLoop {p : GProgram} {f : Nat} {m : GFunc} (hm : p.funcs[f]? = some m) (hl : m.code.length ≤ 60) (z : GI3) (A B : Int) (h : ∀ i ∈ m.code, insOk p m i = true) : ∀ (d x : Nat), m.code.length - x = d → x ≤ m.code.length →
    Ev (fun k => spec_l04Func.l2 k p.funcs z A B m.code (f : Int) (x : Int)) (.inr (p.funcs, z, (f : Int))) := by
  intro d
  induction d with
  | zero =>
    intro x hd hx
    refine Ev.succ ?_
    simp only [spec_l04Func.l2]
    exact Ev.cf (df (by omega)) Ev.pure
  | succ d ih =>
    intro x hd hx
    obtain ⟨i, hi⟩ := list_get (show x < m.code.length by omega)
    refine Ev.succ ?_
    simp only [spec_l04Func.l2]
    refine Ev.ct (dt (by omega)) (Ev.idx hi (Ev.bind (Ev.of fun k => specIns k hm i) (Ev.cf (by rw [h i (List.mem_of_getElem? hi)]; rfl) ?_)))
    rw [wrap_nat (by omega)]
    exact ih (x + 1) (by omega) (by omega)
theorem specInsBad {p : GProgram} {f : Nat} {m : GFunc} (hm : p.funcs[f]? = some m) (hl : m.code.length ≤ 60) (z : GI3) (A B : Int) {y : Nat} {b : GI2} (hy : m.code[y]? = some b) (hb : insOk p m b = false) (h : ∀ (x : Nat) (j : GI2), x < y → m.code[x]? = some j → insOk p m j = true) : ∀ (d x : Nat), y - x = d → x ≤ y →
    Ev (fun k => spec_l04Func.l2 k p.funcs z A B m.code (f : Int) (x : Int)) (.inl ⟨(f : Int), (y : Int), 1⟩) := by
  have hyl := (List.getElem?_eq_some_iff.1 hy).1
  intro d
  induction d with
  | zero =>
    intro x hd hx
    have : x = y := by omega
    subst this
    refine Ev.succ ?_
    simp only [spec_l04Func.l2]
    exact Ev.ct (dt (by omega)) (Ev.idx hy (Ev.bind (Ev.of fun k => specIns k hm b) (Ev.ct (by rw [hb]; rfl) Ev.pure)))
  | succ d ih =>
    intro x hd hx
    obtain ⟨i, hi⟩ := list_get (show x < m.code.length by omega)
    refine Ev.succ ?_
    simp only [spec_l04Func.l2]
    refine Ev.ct (dt (by omega)) (Ev.idx hi (Ev.bind (Ev.of fun k => specIns k hm i) (Ev.cf (by rw [h x i (by omega) hi]; rfl) ?_)))
    rw [wrap_nat (by omega)]
    exact ih (x + 1) (by omega) (by omega)
def formB (m : GFunc) : Prop := (0 ≤ m.args ∧ m.args ≤ 4) ∧ (m.args ≤ m.locals ∧ m.locals ≤ 8) ∧ 1 ≤ m.code.length ∧ m.code.length ≤ 60
instance (m : GFunc) : Decidable (formB m) := by unfold formB; exact inferInstance
theorem impl_in_eq (n a b : Int) : impl_in n a b = some (decide (a ≤ n ∧ n ≤ b)) := by
  unfold impl_in
  by_cases h : a ≤ n
  · simp [h]
  · simp [h]
theorem implFunc {p : GProgram} (ha : Args64 p) {f : Nat} {m : GFunc} (hm : p.funcs[f]? = some m) (z : GI3) (L : Int) :
    (∃ e : GI3, e.c ≠ 0 ∧ (∀ h, ¬ (FormOk p m ∧ RunI p m (some h))) ∧ ∀ hs, Ev (fun k => impl_verify.a3 k p.funcs z hs p.funcs L (f : Int)) (.inl (e, []))) ∨
    (∃ h, FormOk p m ∧ RunI p m (some h) ∧ h.length = m.code.length ∧ ∀ hs : List (List Int), hs.length ≤ 100 → Ev (fun k => impl_verify.a3 k p.funcs z hs p.funcs L (f : Int)) (.inr (p.funcs, z, hs ++ [h], p.funcs, L, (f : Int)))) := by
  by_cases hf : formB m
  · obtain ⟨f1, f2, f3, f4⟩ := hf
    have ha4 : ∀ hs, Ev (fun k => impl_verify.a4 k p.funcs z hs m.args m.locals m.code (f : Int) p.funcs L (f : Int)) (.inr (p.funcs, z, hs, m.args, m.locals, m.code, (f : Int), p.funcs, L, (f : Int))) := by
      intro hs
      unfold impl_verify.a4
      simp only [impl_in_eq]
      refine Ev.bind Ev.pure (Ev.cf (by simp; omega) (Ev.bind Ev.pure (Ev.cf (by simp; omega) (Ev.bind Ev.pure (Ev.cf (by simp; omega) Ev.pure)))))
    rcases ins_from (p := p) (m := m) with hi | ⟨y, b, hy, hb, hlt⟩
    · have hF : FormOk p m := ⟨f1, f2, ⟨f3, f4⟩, hi⟩
      obtain ⟨rI, rS, oI, oS, hI, e1, e2, -, -, -⟩ := heights_both ha hm hF.jumps f3 f4
      cases rI with
      | none =>
        left
        refine ⟨⟨(f : Int), oI.2.1, oI.2.2⟩, e2, fun h hh => (by have := run_same hI hh.2; cases this), fun hs => ?_⟩
        unfold impl_verify.a3
        refine Ev.idx hm (Ev.bind (ha4 hs) (Ev.bind (implInsLoop hm f4 z hs p.funcs L (f : Int) hi _ 0 rfl (by omega)) ?_))
        refine Ev.bind e1 (Ev.ct ?_ Ev.pure)
        have e2' : oI.2.2 ≠ 0 := e2
        simpa using e2'
      | some h =>
        right
        obtain ⟨rfl, hl⟩ := e2
        refine ⟨h, hF, hI, hl, fun hs hlen => ?_⟩
        unfold impl_verify.a3
        refine Ev.idx hm (Ev.bind (ha4 hs) (Ev.bind (implInsLoop hm f4 z hs p.funcs L (f : Int) hi _ 0 rfl (by omega)) ?_))
        exact Ev.bind e1 (Ev.cf (by simp) (Ev.gd ⟨by simp only []; omega, by simp only []; omega⟩ Ev.pure))
    · left
      refine ⟨⟨(f : Int), (y : Int), 1⟩, by simp, fun h hh => (by have := hh.1.ins b (List.mem_of_getElem? hy); rw [hb] at this; cases this), fun hs => ?_⟩
      unfold impl_verify.a3
      exact Ev.idx hm (Ev.bind (ha4 hs) (Ev.bind (implInsBad hm f4 z hs p.funcs L (f : Int) hy hb hlt _ 0 rfl (by omega)) Ev.pure))
  · left
    refine ⟨⟨(f : Int), 0, 1⟩, by simp, fun h hh => hf ⟨hh.1.args, hh.1.locals, hh.1.code⟩, fun hs => ?_⟩
    have ha4 : Ev (fun k => impl_verify.a4 k p.funcs z hs m.args m.locals m.code (f : Int) p.funcs L (f : Int)) (.inl (⟨(f : Int), 0, 1⟩, [])) := by
      unfold impl_verify.a4
      simp only [impl_in_eq]
      refine Ev.bind Ev.pure ?_
      by_cases c1 : 0 ≤ m.args ∧ m.args ≤ 4
      · refine Ev.cf (by simp; omega) (Ev.bind Ev.pure ?_)
        by_cases c2 : m.args ≤ m.locals ∧ m.locals ≤ 8
        · refine Ev.cf (by simp; omega) (Ev.bind Ev.pure ?_)
          by_cases c3 : 1 ≤ m.code.length ∧ m.code.length ≤ 60
          · exact absurd ⟨c1, c2, c3⟩ hf
          · exact Ev.ct (by simp; omega) Ev.pure
        · exact Ev.ct (by simp; omega) Ev.pure
      · exact Ev.ct (by simp; omega) Ev.pure
    unfold impl_verify.a3
    exact Ev.idx hm (Ev.bind ha4 Ev.pure)
theorem specFunc {p : GProgram} (ha : Args64 p) {f : Nat} {m : GFunc} (hm : p.funcs[f]? = some m) :
    ∃ o, Ev (fun k => spec_l04Func k p (f : Int)) o ∧ (o.c = 0 ↔ FormOk p m ∧ ∃ h, RunS p m (some h)) := by
  by_cases hf : formB m
  · obtain ⟨f1, f2, f3, f4⟩ := hf
    have ha1 : Ev (fun k => spec_l04Func.a1 k p.funcs ⟨0, 0, 0⟩ m.args m.locals m.code (f : Int)) (.inr (p.funcs, ⟨0, 0, 0⟩, m.args, m.locals, m.code, (f : Int))) := by
      unfold spec_l04Func.a1
      exact Ev.cf (df (by omega)) (Ev.cf (df (by omega)) (Ev.cf (df (by omega)) (Ev.cf (df (by omega)) (Ev.cf (df (by omega)) (Ev.cf (df (by omega)) Ev.pure)))))
    rcases ins_from (p := p) (m := m) with hi | ⟨y, b, hy, hb, hlt⟩
    · have hF : FormOk p m := ⟨f1, f2, ⟨f3, f4⟩, hi⟩
      obtain ⟨rS, hS⟩ := run_ex (goodS p m.code ha) _ _ _ rfl (h0_len _) (h0_inv m.code.length (by omega) (by omega) (by omega))
      obtain ⟨oS, e3, e4⟩ := specHeights hm hF.jumps f3 f4 hS
      refine ⟨oS.2, ?_, ?_⟩
      · unfold spec_l04Func
        exact Ev.idx hm (Ev.bind ha1 (Ev.bind (specInsLoop hm f4 ⟨0, 0, 0⟩ m.args m.locals hi _ 0 rfl (by omega)) (Ev.bind e3 Ev.pure)))
      · cases rS with
        | none =>
          refine ⟨fun h => absurd h e4, fun ⟨_, h, hh⟩ => ?_⟩
          have := run_same hS hh; cases this
        | some h =>
          obtain ⟨rfl, hl⟩ := e4
          exact ⟨fun _ => ⟨hF, h, hS⟩, fun _ => rfl⟩
    · refine ⟨⟨(f : Int), (y : Int), 1⟩, ?_, ?_⟩
      · unfold spec_l04Func
        exact Ev.idx hm (Ev.bind ha1 (Ev.bind (specInsBad hm f4 ⟨0, 0, 0⟩ m.args m.locals hy hb hlt _ 0 rfl (by omega)) Ev.pure))
      · refine ⟨fun h => (by cases h), fun hh => ?_⟩
        have := hh.1.ins b (List.mem_of_getElem? hy); rw [hb] at this; cases this
  · refine ⟨⟨(f : Int), 0, 1⟩, ?_, ⟨fun h => (by cases h), fun hh => absurd ⟨hh.1.args, hh.1.locals, hh.1.code⟩ hf⟩⟩
    have ha1 : Ev (fun k => spec_l04Func.a1 k p.funcs ⟨0, 0, 0⟩ m.args m.locals m.code (f : Int)) (.inl ⟨(f : Int), 0, 1⟩) := by
      unfold spec_l04Func.a1
      by_cases c1 : m.args < 0
      · exact Ev.ct (dt c1) Ev.pure
      refine Ev.cf (df c1) ?_
      by_cases c2 : m.args > 4
      · exact Ev.ct (dt c2) Ev.pure
      refine Ev.cf (df c2) ?_
      by_cases c3 : m.locals < m.args
      · exact Ev.ct (dt c3) Ev.pure
      refine Ev.cf (df c3) ?_
      by_cases c4 : m.locals > 8
      · exact Ev.ct (dt c4) Ev.pure
      refine Ev.cf (df c4) ?_
      by_cases c5 : (m.code.length : Int) < 1
      · exact Ev.ct (dt c5) Ev.pure
      refine Ev.cf (df c5) ?_
      by_cases c6 : (m.code.length : Int) > 60
      · exact Ev.ct (dt c6) Ev.pure
      exact absurd ⟨by omega, by omega, by omega, by omega⟩ hf
    unfold spec_l04Func
    exact Ev.idx hm (Ev.bind ha1 Ev.pure)
structure RightP (p : GProgram) : Prop where
  many : 1 ≤ p.funcs.length ∧ p.funcs.length ≤ 6
  all : ∀ m ∈ p.funcs, FormOk p m ∧ ∃ h, RunN p m (some h)
theorem RightP.normal {p : GProgram} (h : RightP p) : Normal p := fun m hm => (h.all m hm).1.args
structure Hts (p : GProgram) (hs : List (List Int)) : Prop where
  len : hs.length = p.funcs.length
  at_ : ∀ (x : Nat) (m : GFunc), p.funcs[x]? = some m → ∃ h, hs[x]? = some h ∧ RunN p m (some h) ∧ h.length = m.code.length
theorem inv1 (n : Nat) : HInv A1 W1 (h0 n) (w0 n) := h0_inv n (by omega) (by omega) (by omega)
theorem runI_N {p : GProgram} (hN : Normal p) {m : GFunc} {r : Option (List Int)} (h : RunI p m r) : RunN p m r := run_N hN (fun x h w hh hw => stepI_N hN hh hw) h (inv1 _)
theorem runS_N {p : GProgram} (hN : Normal p) {m : GFunc} {r : Option (List Int)} (h : RunS p m r) : RunN p m r := run_N hN (fun x h w hh hw => stepS_N hN hh hw) h (inv1 _)
theorem runN_I {p : GProgram} (ha : Args64 p) (hN : Normal p) {m : GFunc} {r : Option (List Int)} (h : RunN p m r) : RunI p m r := by
  obtain ⟨r', h'⟩ := run_ex (goodI p m.code ha) _ _ _ rfl (h0_len _) (h0_inv m.code.length (by omega) (by omega) (by omega))
  rw [run_same h (runI_N hN h')]
  exact h'
theorem runN_S {p : GProgram} (ha : Args64 p) (hN : Normal p) {m : GFunc} {r : Option (List Int)} (h : RunN p m r) : RunS p m r := by
  obtain ⟨r', h'⟩ := run_ex (goodS p m.code ha) _ _ _ rfl (h0_len _) (h0_inv m.code.length (by omega) (by omega) (by omega))
  rw [run_same h (runS_N hN h')]
  exact h'
theorem implVerLoop {p : GProgram} (ha : Args64 p) (hl : p.funcs.length ≤ 6) (z : GI3) : ∀ (d j : Nat) (hs : List (List Int)), p.funcs.length - j = d → j ≤ p.funcs.length → hs.length = j →
    (∀ (x : Nat) (m : GFunc), x < j → p.funcs[x]? = some m → ∃ h, hs[x]? = some h ∧ FormOk p m ∧ RunI p m (some h) ∧ h.length = m.code.length) →
    (∃ e : GI3, e.c ≠ 0 ∧ (∃ m ∈ p.funcs, ∀ h, ¬ (FormOk p m ∧ RunI p m (some h))) ∧ Ev (fun k => impl_verify.l2 k p.funcs z hs p.funcs (p.funcs.length : Int) (j : Int)) (.inl (e, []))) ∨
    (∃ hs', Ev (fun k => impl_verify.l2 k p.funcs z hs p.funcs (p.funcs.length : Int) (j : Int)) (.inr (z, hs')) ∧ hs'.length = p.funcs.length ∧ ∀ (x : Nat) (m : GFunc), p.funcs[x]? = some m → ∃ h, hs'[x]? = some h ∧ FormOk p m ∧ RunI p m (some h) ∧ h.length = m.code.length) := by
  intro d
  induction d with
  | zero =>
    intro j hs hd hj hlen hall
    right
    refine ⟨hs, ?_, by omega, fun x m hm => hall x m (by have := (List.getElem?_eq_some_iff.1 hm).1; omega) hm⟩
    refine Ev.succ ?_
    simp only [impl_verify.l2]
    exact Ev.cf (df (by omega)) Ev.pure
  | succ d ih =>
    intro j hs hd hj hlen hall
    obtain ⟨m, hm⟩ := list_get (show j < p.funcs.length by omega)
    rcases implFunc ha hm z (p.funcs.length : Int) with ⟨e, he, hno, hev⟩ | ⟨h, hF, hI, hlh, hev⟩
    · left
      refine ⟨e, he, ⟨m, List.mem_of_getElem? hm, hno⟩, ?_⟩
      refine Ev.succ ?_
      simp only [impl_verify.l2]
      exact Ev.ct (dt (by omega)) (Ev.bind (hev hs) Ev.pure)
    · have hall' : ∀ (x : Nat) (m : GFunc), x < j + 1 → p.funcs[x]? = some m → ∃ h', (hs ++ [h])[x]? = some h' ∧ FormOk p m ∧ RunI p m (some h') ∧ h'.length = m.code.length := by
        intro x m' hx hm'
        by_cases c : x < j
        · obtain ⟨h', g1, g2⟩ := hall x m' c hm'
          exact ⟨h', by rw [List.getElem?_append_left (by omega)]; exact g1, g2⟩
        · have : x = j := by omega
          subst this
          rw [hm] at hm'
          cases hm'
          exact ⟨h, by rw [List.getElem?_append_right (by omega)]; simp [hlen], hF, hI, hlh⟩
      have step : ∀ o, Ev (fun k => impl_verify.l2 k p.funcs z (hs ++ [h]) p.funcs (p.funcs.length : Int) ((j + 1 : Nat) : Int)) o → Ev (fun k => impl_verify.l2 k p.funcs z hs p.funcs (p.funcs.length : Int) (j : Int)) o := by
        intro o ho
        refine Ev.succ ?_
        simp only [impl_verify.l2]
        refine Ev.ct (dt (by omega)) (Ev.bind (hev hs (by omega)) ?_)
        simp only [Sum.elim_inr]
        rw [wrap_nat (by omega)]
        exact ho
      rcases ih (j + 1) (hs ++ [h]) (by omega) (by omega) (by simp [hlen]) hall' with ⟨e, h1, h2, h3⟩ | ⟨hs', h1, h2⟩
      · exact .inl ⟨e, h1, h2, step _ h3⟩
      · exact .inr ⟨hs', step _ h1, h2⟩
theorem implVerify {p : GProgram} (ha : Args64 p) (hn : p.funcs.length ≤ 1048576) : ∃ r, Ev (fun k => impl_verify k p) r ∧ ((r.1.c = 0 ∧ RightP p ∧ Hts p r.2) ∨ (r.1.c ≠ 0 ∧ ¬ RightP p)) := by
  by_cases c1 : p.funcs.length < 1
  · refine ⟨(⟨0, 0, 1⟩, []), ?_, .inr ⟨by simp, fun h => by have := h.many; omega⟩⟩
    unfold impl_verify impl_verify.a1
    exact Ev.bind (Ev.ct (dt (by omega)) Ev.pure) Ev.pure
  by_cases c2 : p.funcs.length > 6
  · refine ⟨(⟨0, 0, 1⟩, []), ?_, .inr ⟨by simp, fun h => by have := h.many; omega⟩⟩
    unfold impl_verify impl_verify.a1
    exact Ev.bind (Ev.cf (df (by omega)) (Ev.ct (dt (by omega)) Ev.pure)) Ev.pure
  have ha1 : Ev (fun k => impl_verify.a1 k p.funcs ⟨0, 0, 0⟩) (.inr (p.funcs, ⟨0, 0, 0⟩)) := by
    unfold impl_verify.a1
    exact Ev.cf (df (by omega)) (Ev.cf (df (by omega)) Ev.pure)
  rcases implVerLoop ha (by omega) ⟨0, 0, 0⟩ _ 0 [] rfl (by omega) rfl (fun x m hx => by omega) with ⟨e, h1, ⟨m, hm, hno⟩, h3⟩ | ⟨hs', h1, h2, h3⟩
  · refine ⟨(e, []), ?_, .inr ⟨h1, fun h => ?_⟩⟩
    · unfold impl_verify
      exact Ev.bind ha1 (Ev.bind h3 Ev.pure)
    · obtain ⟨g1, hh, g2⟩ := h.all m hm
      exact hno hh ⟨g1, runN_I ha h.normal g2⟩
  · have hN : Normal p := by
      intro m hm
      obtain ⟨x, hx⟩ := List.getElem?_of_mem hm
      obtain ⟨h, -, g, -⟩ := h3 x m hx
      exact g.args
    refine ⟨(⟨0, 0, 0⟩, hs'), ?_, .inl ⟨rfl, ⟨⟨by omega, by omega⟩, fun m hm => ?_⟩, ⟨h2, fun x m hx => ?_⟩⟩⟩
    · unfold impl_verify
      exact Ev.bind ha1 (Ev.bind h1 Ev.pure)
    · obtain ⟨x, hx⟩ := List.getElem?_of_mem hm
      obtain ⟨h, -, g1, g2, -⟩ := h3 x m hx
      exact ⟨g1, h, runI_N hN g2⟩
    · obtain ⟨h, g0, g1, g2, g3⟩ := h3 x m hx
      exact ⟨h, g0, runI_N hN g2, g3⟩
theorem specVerLoop {p : GProgram} (ha : Args64 p) (hl : p.funcs.length ≤ 6) (z : GI3) : ∀ (d j : Nat), p.funcs.length - j = d → j ≤ p.funcs.length →
    (∃ e : GI3, e.c ≠ 0 ∧ (∃ m ∈ p.funcs, ¬ (FormOk p m ∧ ∃ h, RunS p m (some h))) ∧ Ev (fun k => spec_Verify.l2 k p.funcs z (j : Int)) (.inl e)) ∨
    (Ev (fun k => spec_Verify.l2 k p.funcs z (j : Int)) (.inr z) ∧ ∀ (x : Nat) (m : GFunc), j ≤ x → p.funcs[x]? = some m → FormOk p m ∧ ∃ h, RunS p m (some h)) := by
  intro d
  induction d with
  | zero =>
    intro j hd hj
    right
    refine ⟨?_, fun x m hx hm => by have := (List.getElem?_eq_some_iff.1 hm).1; omega⟩
    refine Ev.succ ?_
    simp only [spec_Verify.l2]
    exact Ev.cf (df (by omega)) Ev.pure
  | succ d ih =>
    intro j hd hj
    obtain ⟨m, hm⟩ := list_get (show j < p.funcs.length by omega)
    obtain ⟨o, ho, hiff⟩ := specFunc ha hm
    by_cases c : o.c = 0
    · have step : ∀ o', Ev (fun k => spec_Verify.l2 k p.funcs z ((j + 1 : Nat) : Int)) o' → Ev (fun k => spec_Verify.l2 k p.funcs z (j : Int)) o' := by
        intro o' ho'
        refine Ev.succ ?_
        simp only [spec_Verify.l2]
        refine Ev.ct (dt (by omega)) (Ev.bind ho (Ev.cf (by simp [c]) ?_))
        rw [wrap_nat (by omega)]
        exact ho'
      rcases ih (j + 1) (by omega) (by omega) with ⟨e, h1, h2, h3⟩ | ⟨h1, h2⟩
      · exact .inl ⟨e, h1, h2, step _ h3⟩
      · refine .inr ⟨step _ h1, fun x m' hx hm' => ?_⟩
        by_cases e : x = j
        · subst e
          rw [hm] at hm'
          cases hm'
          exact hiff.1 c
        · exact h2 x m' (by omega) hm'
    · left
      refine ⟨o, c, ⟨m, List.mem_of_getElem? hm, fun h => c (hiff.2 h)⟩, ?_⟩
      refine Ev.succ ?_
      simp only [spec_Verify.l2]
      exact Ev.ct (dt (by omega)) (Ev.bind ho (Ev.ct (by simp [c]) Ev.pure))
theorem specVerify {p : GProgram} (ha : Args64 p) (hn : p.funcs.length ≤ 1048576) : ∃ s, Ev (fun k => spec_Verify k p) s ∧ (s.c = 0 ↔ RightP p) := by
  by_cases c1 : p.funcs.length < 1
  · refine ⟨⟨0, 0, 1⟩, ?_, ⟨fun h => (by cases h), fun h => by have := h.many; omega⟩⟩
    unfold spec_Verify spec_Verify.a1
    exact Ev.bind (Ev.ct (dt (by omega)) Ev.pure) Ev.pure
  by_cases c2 : p.funcs.length > 6
  · refine ⟨⟨0, 0, 1⟩, ?_, ⟨fun h => (by cases h), fun h => by have := h.many; omega⟩⟩
    unfold spec_Verify spec_Verify.a1
    exact Ev.bind (Ev.cf (df (by omega)) (Ev.ct (dt (by omega)) Ev.pure)) Ev.pure
  have ha1 : Ev (fun k => spec_Verify.a1 k p.funcs ⟨0, 0, 0⟩) (.inr (p.funcs, ⟨0, 0, 0⟩)) := by
    unfold spec_Verify.a1
    exact Ev.cf (df (by omega)) (Ev.cf (df (by omega)) Ev.pure)
  rcases specVerLoop ha (by omega) ⟨0, 0, 0⟩ _ 0 rfl (by omega) with ⟨e, h1, ⟨m, hm, hno⟩, h3⟩ | ⟨h1, h2⟩
  · refine ⟨e, ?_, ⟨fun h => absurd h h1, fun h => ?_⟩⟩
    · unfold spec_Verify
      exact Ev.bind ha1 (Ev.bind h3 Ev.pure)
    · obtain ⟨g1, hh, g2⟩ := h.all m hm
      exact absurd ⟨g1, hh, runN_S ha h.normal g2⟩ hno
  · have hN : Normal p := by
      intro m hm
      obtain ⟨x, hx⟩ := List.getElem?_of_mem hm
      exact (h2 x m (by omega) hx).1.args
    refine ⟨⟨0, 0, 0⟩, ?_, ⟨fun _ => ⟨⟨by omega, by omega⟩, fun m hm => ?_⟩, fun _ => rfl⟩⟩
    · unfold spec_Verify
      exact Ev.bind ha1 (Ev.bind h1 Ev.pure)
    · obtain ⟨x, hx⟩ := List.getElem?_of_mem hm
      obtain ⟨g1, h, g2⟩ := h2 x m (by omega) hx
      exact ⟨g1, h, runS_N hN g2⟩
theorem known_ev {p : GProgram} (ha : Args64 p) (hn : p.funcs.length ≤ 1048576) : ∃ hs ok, Ev (fun k => impl_known k p) (⟨p, hs⟩, ok) ∧ (ok = true ↔ RightP p) ∧ (RightP p → Hts p hs) := by
  obtain ⟨r, hr, h⟩ := implVerify ha hn
  refine ⟨r.2, r.1.c == 0, Ev.bind hr Ev.pure, ?_, ?_⟩
  · rcases h with ⟨h1, h2, -⟩ | ⟨h1, h2⟩
    · simp [h1, h2]
    · simp [h1, h2]
  · intro hp
    rcases h with ⟨-, -, h3⟩ | ⟨-, h2⟩
    · exact h3
    · exact absurd hp h2
theorem hasFunc_eq (p : GProgram) (f : Int) : impl_hasFunc p f = some (decide (0 ≤ f ∧ f < (p.funcs.length : Int))) := by
  unfold impl_hasFunc
  by_cases h : 0 ≤ f
  · simp [h]
  · simp [h]
theorem knownFunc_ev {p : GProgram} (ha : Args64 p) (hn : p.funcs.length ≤ 1048576) (f : Int) : ∃ hs ok, Ev (fun k => impl_knownFunc k p f) (⟨p, hs⟩, ok) ∧ (ok = true ↔ RightP p ∧ 0 ≤ f ∧ f < (p.funcs.length : Int)) ∧ (RightP p → Hts p hs) := by
  obtain ⟨hs, ok, h1, h2, h3⟩ := known_ev ha hn
  cases ok with
  | true =>
    refine ⟨hs, decide (0 ≤ f ∧ f < (p.funcs.length : Int)), ?_, ?_, h3⟩
    · unfold impl_knownFunc
      refine Ev.bind h1 (Ev.ct rfl (Ev.bind (Ev.const (hasFunc_eq p f)) Ev.pure))
    · simp [h2.1 rfl]
  | false =>
    refine ⟨hs, false, ?_, ?_, h3⟩
    · unfold impl_knownFunc
      exact Ev.bind h1 (Ev.cf rfl Ev.pure)
    · have : ¬ RightP p := fun h => by cases h2.2 h
      simp [this]
theorem specIs_ev {p : GProgram} (ha : Args64 p) (hn : p.funcs.length ≤ 1048576) (f : Int) : ∃ ok, Ev (fun k => spec_l04Is k p f) ok ∧ (ok = true ↔ RightP p ∧ 0 ≤ f ∧ f < (p.funcs.length : Int)) := by
  obtain ⟨s, h1, h2⟩ := specVerify ha hn
  have hr : Ev (fun k => spec_l04Right k p) (s.c == 0) := Ev.bind h1 Ev.pure
  by_cases c : s.c = 0
  · refine ⟨decide (0 ≤ f ∧ f < (p.funcs.length : Int)), ?_, by simp [h2.1 c]⟩
    unfold spec_l04Is
    refine Ev.bind hr (Ev.ct (by simp [c]) ?_)
    by_cases h : 0 ≤ f
    · refine Ev.ct (dt h) ?_
      simp only [h, true_and]
      exact Ev.pure
    · refine Ev.cf (df h) ?_
      simp only [h, false_and, decide_false]
      exact Ev.pure
  · have : ¬ RightP p := fun h => c (h2.2 h)
    refine ⟨false, ?_, by simp [this]⟩
    unfold spec_l04Is
    exact Ev.bind hr (Ev.cf (by simp [c]) Ev.pure)
theorem specHeightsN {p : GProgram} (ha : Args64 p) (hp : RightP p) {f : Nat} {m : GFunc} (hm : p.funcs[f]? = some m) {h : List Int} (hr : RunN p m (some h)) : Ev (fun k => spec_l04Heights k p (f : Int)) (h, ⟨0, 0, 0⟩) := by
  have hF := (hp.all m (List.mem_of_getElem? hm)).1
  obtain ⟨o, ho, hres⟩ := specHeights hm hF.jumps hF.code.1 hF.code.2 (runN_S ha hp.normal hr)
  obtain ⟨rfl, -⟩ := hres
  exact ho
def Past (p : GProgram) (code : List GI2) (h : List Int) (x : Nat) (i : GI2) (y : Int) : Prop := takesL p i ≤ y ∧ y - takesL p i + putsL i ≤ 8 ∧ ∀ n ∈ nextL i (x : Int), n < (code.length : Int) ∧ h[n.toNat]? = some (y - takesL p i + putsL i)
theorem putN_keep {len : Nat} {v : Int} (hv : 0 ≤ v) : ∀ (ns : List Int) (h : List Int) (w : List Bool) (h' : List Int) (w' : List Bool), putN len v ns h w = some (h', w') →
    (∀ (j : Nat) (y : Int), h[j]? = some y → 0 ≤ y → h'[j]? = some y) ∧ (∀ (j : Nat), w[j]? = some true → w'[j]? = some true) ∧ (∀ (j : Nat) (y : Int), h'[j]? = some y → 0 ≤ y → h[j]? = some y ∨ w'[j]? = some true ∨ w.length ≤ j) ∧
    (∀ n ∈ ns, n < (len : Int) ∧ h'[n.toNat]? = some v) ∧ w'.length = w.length
  | [], h, w, h', w', hp => by
    simp only [putN, Option.some.injEq, Prod.mk.injEq] at hp
    obtain ⟨rfl, rfl⟩ := hp
    exact ⟨fun _ _ h _ => h, fun _ h => h, fun _ _ h _ => .inl h, fun n hn => (by cases hn), rfl⟩
  | n :: ns, h, w, h', w', hp => by
    simp only [putN] at hp
    split at hp
    · cases hp
    rename_i hlt
    split at hp
    · cases hp
    rename_i x hx
    split at hp
    · split at hp
      · rename_i h0x hxv
        obtain ⟨g1, g2, g3, g4, g5⟩ := putN_keep hv ns h w h' w' hp
        refine ⟨g1, g2, g3, fun m hm => ?_, g5⟩
        rcases List.mem_cons.1 hm with rfl | hm
        · exact ⟨by omega, by rw [← hxv]; exact g1 _ _ hx h0x⟩
        · exact g4 m hm
      · cases hp
    · rename_i hneg
      obtain ⟨g1, g2, g3, g4, g5⟩ := putN_keep hv ns _ _ h' w' hp
      have hn := (List.getElem?_eq_some_iff.1 hx).1
      refine ⟨fun j y hj hy => ?_, fun j hj => ?_, fun j y hj hy => ?_, fun m hm => ?_, by simpa using g5⟩
      · refine g1 j y ?_ hy
        by_cases e : n.toNat = j
        · subst e; rw [hx] at hj; cases hj; omega
        · rw [List.getElem?_set_ne e]; exact hj
      · refine g2 j ?_
        by_cases e : n.toNat = j
        · subst e; rw [List.getElem?_set_self (List.getElem?_eq_some_iff.1 hj).1]
        · rw [List.getElem?_set_ne e]; exact hj
      · rcases g3 j y hj hy with g | g | g
        · by_cases e : n.toNat = j
          · subst e
            by_cases hw : n.toNat < w.length
            · exact .inr (.inl (g2 _ (by rw [List.getElem?_set_self hw])))
            · exact .inr (.inr (by omega))
          · rw [List.getElem?_set_ne e] at g; exact .inl g
        · exact .inr (.inl g)
        · exact .inr (.inr (by simpa using g))
      · rcases List.mem_cons.1 hm with rfl | hm
        · exact ⟨by omega, g1 _ _ (by rw [List.getElem?_set_self hn]) hv⟩
        · exact g4 m hm
theorem run_past {p : GProgram} (hN : Normal p) {code : List GI2} {h : List Int} {w : List Bool} {r : Option (List Int)} (hr : HRun (stepN p code) h w r) : HInv A1 W1 h w →
    (∀ (x : Nat) (i : GI2) (y : Int), code[x]? = some i → h[x]? = some y → 0 ≤ y → w[x]? = some true ∨ Past p code h x i y) → ∀ hf, r = some hf → (∀ (x : Nat) (i : GI2) (y : Int), code[x]? = some i → hf[x]? = some y → 0 ≤ y → Past p code hf x i y) ∧ (∀ (x : Nat) (y : Int), hf[x]? = some y → A1 y) ∧ ∀ (x : Nat) (y : Int), h[x]? = some y → 0 ≤ y → hf[x]? = some y := by
  induction hr with
  | @done h w h1 =>
    intro hi hpast hf e
    cases e
    refine ⟨fun x i y hx hy h0y => ?_, hi.all, fun _ _ h _ => h⟩
    rcases hpast x i y hx hy h0y with g | g
    · exact absurd g (h1 x)
    · exact g
  | bad h1 h2 => intro hi hpast hf e; cases e
  | @go h h' w w' x r h1 h2 h3 ih =>
    intro hi hpast hf e
    have hi' := (stepN_inv hN hi h1.1 h2).1
    unfold stepN at h2
    split at h2
    · rename_i i y hx hy
      split at h2
      · cases h2
      split at h2
      · cases h2
      rename_i c1 c2
      have hpu := putsL_range i
      obtain ⟨g1, g2, g3, g4, g5⟩ := putN_keep (by omega) _ _ _ _ _ h2
      have := ih hi' (fun z j u hz hu h0u => ?_) hf e
      · exact ⟨this.1, this.2.1, fun z u hz h0u => this.2.2 z u (g1 z u hz h0u) h0u⟩
      · rcases g3 z u hu h0u with g | g | g
        · by_cases ez : z = x
          · subst ez
            rw [hx] at hz
            cases hz
            rw [hy] at g
            cases g
            exact .inr ⟨by omega, by omega, g4⟩
          · rcases hpast z j u hz g h0u with k | ⟨k1, k2, k3⟩
            · left
              refine g2 z ?_
              rw [List.getElem?_set_ne (fun e => ez e.symm)]
              exact k
            · refine .inr ⟨k1, k2, fun n hn => ⟨(k3 n hn).1, g1 _ _ (k3 n hn).2 ?_⟩⟩
              have := putsL_range j
              omega
        · exact .inl g
        · have h5 := (List.getElem?_eq_some_iff.1 hu).1
          have h6 := hi'.len
          simp at g g5
          omega
    · cases h2
theorem heights_past {p : GProgram} (hp : RightP p) {m : GFunc} (hm : m ∈ p.funcs) {h : List Int} (hr : RunN p m (some h)) :
    (∀ (x : Nat) (i : GI2) (y : Int), m.code[x]? = some i → h[x]? = some y → 0 ≤ y → Past p m.code h x i y) ∧ (∀ (x : Nat) (y : Int), h[x]? = some y → A1 y) ∧ h[0]? = some 0 := by
  have hF := (hp.all m hm).1
  have hc := hF.code
  have key : ∀ (x : Nat) (i : GI2) (y : Int), m.code[x]? = some i → (h0 m.code.length)[x]? = some y → 0 ≤ y → (w0 m.code.length)[x]? = some true ∨ Past p m.code (h0 m.code.length) x i y := by
    intro x i y hx hy h0y
    left
    by_cases e : 0 = x
    · subst e
      unfold w0
      rw [List.getElem?_set_self (by simp; omega)]
    · unfold h0 at hy
      rw [List.getElem?_set_ne e, List.getElem?_replicate] at hy
      split at hy
      · cases hy; omega
      · cases hy
  obtain ⟨g1, g2, g3⟩ := run_past hp.normal hr (inv1 _) key h rfl
  refine ⟨g1, g2, g3 0 0 ?_ (by omega)⟩
  unfold h0
  rw [List.getElem?_set_self (by simp; omega)]
def hit (code : List GI2) (h : List Int) (t : Int) (x : Nat) : Bool := match code[x]?, h[x]? with
  | some i, some y => decide (0 ≤ y) && (nextL i (x : Int)).contains t
  | _, _ => false
def predsUp (code : List GI2) (h : List Int) (t : Int) : Nat → List Int
  | 0 => []
  | x + 1 => predsUp code h t x ++ (if hit code h t x then [(x : Int)] else [])
theorem predsUp_length (code : List GI2) (h : List Int) (t : Int) : ∀ x, (predsUp code h t x).length ≤ x
  | 0 => by simp [predsUp]
  | x + 1 => by
    have := predsUp_length code h t x
    simp only [predsUp, List.length_append]
    split <;> simp <;> omega
theorem code_ev {p : GProgram} {hs : List (List Int)} {f : Nat} {m : GFunc} (hm : p.funcs[f]? = some m) : impl_prog_code ⟨p, hs⟩ (f : Int) = some m.code := by
  unfold impl_prog_code
  simp [idx_nat, hm]
theorem reached_ev {p : GProgram} {hs : List (List Int)} {f : Nat} {h : List Int} (hf : f < p.funcs.length) (hh : hs[f]? = some h) {x : Nat} {y : Int} (hy : h[x]? = some y) : impl_prog_reached ⟨p, hs⟩ (f : Int) (x : Int) = some (decide (0 ≤ y)) := by
  have hx := (List.getElem?_eq_some_iff.1 hy).1
  unfold impl_prog_reached
  simp only [hasFunc_eq, Option.bind_some]
  have hxy : h[x] = y := (List.getElem?_eq_some_iff.1 hy).2
  simp [hf, idx_nat, hh, hy, hx, hxy]
theorem implPredsIn (g : Gprog) (f to : Int) (acc : List Int) (x : Nat) (code : List GI2) (n : Int) (hacc : acc.length ≤ 100) : ∀ (ns pre : List Int), (pre ++ ns).length < 100 →
    Ev (fun k => impl_prog_preds.l3 k (pre ++ ns) g f to acc (x : Int) code n (x : Int) ((pre ++ ns).length : Int) (pre.length : Int)) (g, f, to, (if ns.contains to then acc ++ [(x : Int)] else acc), code, n, (x : Int))
  | [], pre, hp => by
    refine Ev.succ ?_
    simp only [impl_prog_preds.l3, List.append_nil]
    exact Ev.cf (df (by omega)) Ev.pure
  | t :: ns, pre, hp => by
    have hmid := at_mid pre t ns
    have hl : (pre.length : Int) < ((pre ++ t :: ns).length : Int) := by simp; omega
    have pre' : pre ++ t :: ns = (pre ++ [t]) ++ ns := by simp
    have plen : ((pre.length + 1 : Nat) : Int) = ((pre ++ [t]).length : Int) := by simp
    refine Ev.succ ?_
    simp only [impl_prog_preds.l3]
    refine Ev.ct (dt hl) (Ev.idx hmid ?_)
    by_cases c : t = to
    · subst c
      refine Ev.ct (by simp) (Ev.gd ⟨by omega, by omega⟩ ?_)
      simp only [List.contains_cons, beq_self_eq_true, Bool.true_or, if_true]
      exact Ev.pure
    · refine Ev.cf (by simp [c]) ?_
      have := implPredsIn g f to acc x code n hacc ns (pre ++ [t]) (by rw [← pre']; exact hp)
      rw [wrap_nat (by simp at hp; omega), plen]
      have e : (t :: ns).contains to = ns.contains to := by
        rw [List.contains_cons]
        have : (to == t) = false := by simp; exact fun h => c h.symm
        rw [this, Bool.false_or]
      rw [e, pre']
      exact this
theorem implPredsLoop {p : GProgram} {hs : List (List Int)} {f : Nat} {m : GFunc} {h : List Int} (hm : p.funcs[f]? = some m) (hh : hs[f]? = some h) (hl : h.length = m.code.length) (hc : m.code.length ≤ 60) (to : Int) : ∀ (d x : Nat), m.code.length - x = d → x ≤ m.code.length →
    Ev (fun k => impl_prog_preds.l1 k ⟨p, hs⟩ (f : Int) to (predsUp m.code h to x) m.code (m.code.length : Int) (x : Int)) (predsUp m.code h to m.code.length) := by
  have hf := (List.getElem?_eq_some_iff.1 hm).1
  intro d
  induction d with
  | zero =>
    intro x hd hx
    have : x = m.code.length := by omega
    subst this
    refine Ev.succ ?_
    simp only [impl_prog_preds.l1]
    exact Ev.cf (df (by omega)) Ev.pure
  | succ d ih =>
    intro x hd hx
    obtain ⟨i, hi⟩ := list_get (show x < m.code.length by omega)
    obtain ⟨y, hy⟩ := list_get (show x < h.length by omega)
    have hlen := predsUp_length m.code h to x
    have ha2 : Ev (fun k => impl_prog_preds.a2 k (predsUp m.code h to x) ⟨p, hs⟩ (f : Int) to m.code (m.code.length : Int) (x : Int)) (⟨p, hs⟩, (f : Int), to, predsUp m.code h to (x + 1), m.code, (m.code.length : Int), (x : Int)) := by
      unfold impl_prog_preds.a2
      refine Ev.idx hi (Ev.bind (Ev.const (reached_ev hf hh hy)) ?_)
      simp only [predsUp, hit, hi, hy]
      by_cases c : 0 ≤ y
      · refine Ev.cf (by simp [c]) (Ev.bind (Ev.const (implNext i x (by omega))) ?_)
        have := implPredsIn ⟨p, hs⟩ (f : Int) to (predsUp m.code h to x) x m.code (m.code.length : Int) (by omega) (nextL i (x : Int)) [] (by have := nextL_length i x; simp; omega)
        refine Ev.bind this ?_
        simp only [c, decide_true, Bool.true_and]
        by_cases e : (nextL i (x : Int)).contains to = true
        · simp only [e, if_true]; exact Ev.pure
        · simp only [e, if_false]
          simp only [Bool.not_eq_true] at e
          simp only [e, Bool.false_eq_true, if_false, List.append_nil]
          exact Ev.pure
      · refine Ev.ct (by simp [c]) ?_
        simp only [c, decide_false, Bool.false_and, Bool.false_eq_true, if_false, List.append_nil]
        exact Ev.pure
    refine Ev.succ ?_
    simp only [impl_prog_preds.l1]
    refine Ev.ct (dt (by omega)) (Ev.bind ha2 ?_)
    rw [wrap_nat (by omega)]
    exact ih (x + 1) (by omega) (by omega)
theorem implPreds {p : GProgram} {hs : List (List Int)} {f : Nat} {m : GFunc} {h : List Int} (hm : p.funcs[f]? = some m) (hh : hs[f]? = some h) (hl : h.length = m.code.length) (hc : m.code.length ≤ 60) (to : Int) :
    Ev (fun k => impl_prog_preds k ⟨p, hs⟩ (f : Int) to) (predsUp m.code h to m.code.length) := by
  unfold impl_prog_preds
  exact Ev.bind (Ev.const (code_ev hm)) (Ev.bind (implPredsLoop hm hh hl hc to _ 0 rfl (by omega)) Ev.pure)
theorem specNext (k : Nat) (i : GI2) (x : Nat) (hx : x < 1000000) : spec_l08Next k i (x : Int) = some (nextL i (x : Int)) := by
  unfold spec_l08Next spec_l08Next.a1 nextL
  rw [wrap_nat (by omega)]
  by_cases d1 : i.a = 30
  · simp [d1, L.gd]
  have e1 : (i.a == 30) = false := by simpa using d1
  by_cases d3 : i.a = 33
  · simp [d1, e1, d3, L.gd]
  have e3 : (i.a == 33) = false := by simpa using d3
  by_cases d2 : i.a = 31
  · simp [d1, e1, d3, e3, d2, L.gd]
  have e2 : (i.a == 31) = false := by simpa using d2
  simp [d1, e1, d3, e3, d2, e2, L.gd]
  simp [bne, e1, e3, e2]
structure Tab (code : List GI2) (h : List Int) (x : Nat) (out : List (List Int)) : Prop where
  len : out.length = code.length
  row : ∀ t : Nat, t < code.length → out[t]? = some (predsUp code h (t : Int) x)
theorem specPredsRow {p : GProgram} (hN : Normal p) {m : GFunc} {h : List Int} {f : Nat} (hm : p.funcs[f]? = some m) (hl : h.length = m.code.length) (hc : m.code.length ≤ 60) {x : Nat} {i : GI2} {y : Int} (hi : m.code[x]? = some i) (hy : h[x]? = some y) (h0y : 0 ≤ y) (hp : Past p m.code h x i y) (hpos : ∀ n ∈ nextL i (x : Int), 0 ≤ n)
    {out : List (List Int)} (ht : Tab m.code h x out) : ∃ out', Ev (fun k => spec_l17Preds.l3 k p.funcs h out (nextL i (x : Int)) (f : Int) (x : Int) 0) (p.funcs, h, out', (f : Int), (x : Int)) ∧ Tab m.code h (x + 1) out' := by
  have hx := (List.getElem?_eq_some_iff.1 hi).1
  -- a row more
  have put : ∀ (ns : List Int) (a : Int), 0 ≤ a → a < (m.code.length : Int) → out[a.toNat]? = some (predsUp m.code h a x) := by
    intro ns a h1 h2
    have := ht.row a.toNat (by omega)
    rwa [Int.toNat_of_nonneg h1] at this
  have hlen : ∀ a, (predsUp m.code h a x).length ≤ 60 := fun a => by have := predsUp_length m.code h a x; omega
  match hn : nextL i (x : Int), nextL_length i (x : Int) with
  | [], _ =>
    refine ⟨out, ?_, ht.len, fun t htl => ?_⟩
    · refine Ev.succ ?_
      simp only [spec_l17Preds.l3]
      exact Ev.cf (by simp) Ev.pure
    · rw [ht.row t htl]
      simp [predsUp, hit, hi, hy, hn]
  | [a], _ =>
    have ha0 := hpos a (by rw [hn]; simp)
    have ha1 := (hp.2.2 a (by rw [hn]; simp)).1
    have ho := put [] a ha0 ha1
    refine ⟨out.set a.toNat (predsUp m.code h a x ++ [(x : Int)]), ?_, by simp [ht.len], fun t htl => ?_⟩
    · refine Ev.succ ?_
      simp only [spec_l17Preds.l3]
      refine Ev.ct (by simp) (Ev.bind (a := (p.funcs, h, out, [a], (f : Int), (x : Int), 0, true)) ?_ ?_)
      · unfold spec_l17Preds.a4
        exact Ev.ct (by simp) Ev.pure
      · refine Ev.ct rfl (Ev.idxI (by simp) (m := a) rfl (Ev.idxI ha0 ho (Ev.gd ⟨by have := hlen a; omega, by have := hlen a; omega⟩ ?_)))
        refine Ev.succ ?_
        simp only [spec_l17Preds.l3]
        refine Ev.cf ?_ Ev.pure
        simp [wrap64_eq]
    · by_cases e : a.toNat = t
      · subst e
        rw [List.getElem?_set_self (by rw [ht.len]; omega)]
        simp [predsUp, hit, hi, hy, hn, h0y, Int.toNat_of_nonneg ha0]
      · rw [List.getElem?_set_ne e, ht.row t htl]
        have : ¬ (t : Int) = a := by omega
        simp [predsUp, hit, hi, hy, hn, h0y, this]
  | [a, b], _ =>
    have ha0 := hpos a (by rw [hn]; simp)
    have ha1 := (hp.2.2 a (by rw [hn]; simp)).1
    have hb0 := hpos b (by rw [hn]; simp)
    have hb1 := (hp.2.2 b (by rw [hn]; simp)).1
    have ho := put [] a ha0 ha1
    have hob := put [] b hb0 hb1
    have w1 : IntKind.i64.wrap (0 + 1) = 1 := by simp [wrap64_eq]
    have w2 : IntKind.i64.wrap (1 + 1) = 2 := by simp [wrap64_eq]
    have first : ∀ o, Ev (fun k => spec_l17Preds.l3 k p.funcs h (out.set a.toNat (predsUp m.code h a x ++ [(x : Int)])) [a, b] (f : Int) (x : Int) 1) o → Ev (fun k => spec_l17Preds.l3 k p.funcs h out [a, b] (f : Int) (x : Int) 0) o := by
      intro o h'
      refine Ev.succ ?_
      simp only [spec_l17Preds.l3]
      refine Ev.ct (by simp) (Ev.bind (a := (p.funcs, h, out, [a, b], (f : Int), (x : Int), 0, true)) ?_ ?_)
      · unfold spec_l17Preds.a4
        exact Ev.ct (by simp) Ev.pure
      · refine Ev.ct rfl (Ev.idxI (by simp) (m := a) rfl (Ev.idxI ha0 ho (Ev.gd ⟨by have := hlen a; omega, by have := hlen a; omega⟩ ?_)))
        simp only [w1]
        exact h'
    have last : ∀ out', Ev (fun k => spec_l17Preds.l3 k p.funcs h out' [a, b] (f : Int) (x : Int) 2) (p.funcs, h, out', (f : Int), (x : Int)) := by
      intro out'
      refine Ev.succ ?_
      simp only [spec_l17Preds.l3]
      exact Ev.cf (by simp) Ev.pure
    have ha4 : Ev (fun k => spec_l17Preds.a4 k p.funcs h (out.set a.toNat (predsUp m.code h a x ++ [(x : Int)])) [a, b] (f : Int) (x : Int) 1) (p.funcs, h, out.set a.toNat (predsUp m.code h a x ++ [(x : Int)]), [a, b], (f : Int), (x : Int), 1, b != a) := by
      unfold spec_l17Preds.a4
      exact Ev.cf (by simp) (Ev.idxI (by simp) (m := b) rfl (Ev.idxI (by simp) (m := a) rfl Ev.pure))
    by_cases c : b = a
    · refine ⟨out.set a.toNat (predsUp m.code h a x ++ [(x : Int)]), first _ ?_, by simp [ht.len], fun t htl => ?_⟩
      · refine Ev.succ ?_
        simp only [spec_l17Preds.l3]
        refine Ev.ct (by simp) (Ev.bind ha4 (Ev.cf (by simp [c]) ?_))
        simp only [w2]
        exact last _
      · by_cases e : a.toNat = t
        · subst e
          rw [List.getElem?_set_self (by rw [ht.len]; omega)]
          simp [predsUp, hit, hi, hy, hn, h0y, Int.toNat_of_nonneg ha0]
        · rw [List.getElem?_set_ne e, ht.row t htl]
          have h1 : ¬ (t : Int) = a := by omega
          have h2 : ¬ (t : Int) = b := by omega
          simp [predsUp, hit, hi, hy, hn, h0y, h1, h2]
    · have hob' : (out.set a.toNat (predsUp m.code h a x ++ [(x : Int)]))[b.toNat]? = some (predsUp m.code h b x) := by
        rw [List.getElem?_set_ne (by omega)]; exact hob
      refine ⟨(out.set a.toNat (predsUp m.code h a x ++ [(x : Int)])).set b.toNat (predsUp m.code h b x ++ [(x : Int)]), first _ ?_, by simp [ht.len], fun t htl => ?_⟩
      · refine Ev.succ ?_
        simp only [spec_l17Preds.l3]
        refine Ev.ct (by simp) (Ev.bind ha4 (Ev.ct (by simp [c]) ?_))
        refine Ev.idxI (by simp) (m := b) rfl (Ev.idxI hb0 hob' (Ev.gd ⟨by have := hlen b; omega, by have := hlen b; omega⟩ ?_))
        simp only [w2]
        exact last _
      · by_cases e : b.toNat = t
        · subst e
          rw [List.getElem?_set_self (by simp [ht.len]; omega)]
          simp [predsUp, hit, hi, hy, hn, h0y, Int.toNat_of_nonneg hb0]
        · rw [List.getElem?_set_ne e]
          by_cases e2 : a.toNat = t
          · subst e2
            rw [List.getElem?_set_self (by rw [ht.len]; omega)]
            simp [predsUp, hit, hi, hy, hn, h0y, Int.toNat_of_nonneg ha0]
          · rw [List.getElem?_set_ne e2, ht.row t htl]
            have h1 : ¬ (t : Int) = a := by omega
            have h2 : ¬ (t : Int) = b := by omega
            simp [predsUp, hit, hi, hy, hn, h0y, h1, h2]
  | a :: b :: c :: l, hlen3 => simp at hlen3
theorem specPredsLoop {p : GProgram} (hp : RightP p) {f : Nat} {m : GFunc} {h : List Int} (hm : p.funcs[f]? = some m) (hr : RunN p m (some h)) (hl : h.length = m.code.length) : ∀ (d x : Nat) (out : List (List Int)), m.code.length - x = d → x ≤ m.code.length → Tab m.code h x out →
    ∃ out', Ev (fun k => spec_l17Preds.l1 k p.funcs h out (f : Int) (x : Int)) out' ∧ Tab m.code h m.code.length out' := by
  have hmem := List.mem_of_getElem? hm
  have hF := (hp.all m hmem).1
  have hc := hF.code
  obtain ⟨hpast, hA, -⟩ := heights_past hp hmem hr
  intro d
  induction d with
  | zero =>
    intro x out hd hx ht
    have : x = m.code.length := by omega
    subst this
    refine ⟨out, ?_, ht⟩
    refine Ev.succ ?_
    simp only [spec_l17Preds.l1]
    exact Ev.cf (df (by omega)) Ev.pure
  | succ d ih =>
    intro x out hd hx ht
    obtain ⟨i, hi⟩ := list_get (show x < m.code.length by omega)
    obtain ⟨y, hy⟩ := list_get (show x < h.length by omega)
    have ha2 : ∃ out2, Ev (fun k => spec_l17Preds.a2 k p.funcs h out (f : Int) (x : Int)) (p.funcs, h, out2, (f : Int), (x : Int)) ∧ Tab m.code h (x + 1) out2 := by
      by_cases c : y < 0
      · refine ⟨out, ?_, ht.len, fun t htl => ?_⟩
        · unfold spec_l17Preds.a2
          exact Ev.idx hy (Ev.ct (dt c) Ev.pure)
        · rw [ht.row t htl]
          simp [predsUp, hit, hi, hy, show ¬ 0 ≤ y by omega]
      · obtain ⟨out2, h1, h2⟩ := specPredsRow hp.normal hm hl hc.2 hi hy (by omega) (hpast x i y hi hy (by omega)) (fun n hn => (nextL_in hF.jumps hi n hn).1) ht
        refine ⟨out2, ?_, h2⟩
        unfold spec_l17Preds.a2
        exact Ev.idx hy (Ev.cf (df c) (Ev.idx hm (Ev.idx hi (Ev.bind (Ev.of fun k => specNext k i x (by omega)) (Ev.bind h1 Ev.pure)))))
    obtain ⟨out2, h1, h2⟩ := ha2
    obtain ⟨out', h3, h4⟩ := ih (x + 1) out2 (by omega) (by omega) h2
    refine ⟨out', ?_, h4⟩
    refine Ev.succ ?_
    simp only [spec_l17Preds.l1]
    refine Ev.ct (dt (by omega)) (Ev.bind h1 ?_)
    rw [wrap_nat (by omega)]
    exact h3
theorem specPredsTab {p : GProgram} (ha : Args64 p) (hp : RightP p) {f : Nat} {m : GFunc} {h : List Int} (hm : p.funcs[f]? = some m) (hr : RunN p m (some h)) (hl : h.length = m.code.length) :
    ∃ out, Ev (fun k => spec_l17Preds k p (f : Int)) out ∧ Tab m.code h m.code.length out := by
  have hc := (hp.all m (List.mem_of_getElem? hm)).1.code
  obtain ⟨out, h1, h2⟩ := specPredsLoop hp hm hr hl _ 0 (List.replicate h.length []) rfl (by omega) ⟨by simp [hl], fun t ht => by rw [List.getElem?_replicate, if_pos (by omega)]; rfl⟩
  refine ⟨out, ?_, h2⟩
  unfold spec_l17Preds
  refine Ev.bind (specHeightsN ha hp hm hr) (Ev.gd ⟨by simp only []; omega, by simp only []; omega, by simp only []; omega⟩ (Ev.bind h1 Ev.pure))
abbrev B := BitVec 64
theorem wrap_bits (b : B) : IntKind.i64.wrap ((b.toNat : Nat) : Int) = b.toInt := by
  rw [wrap64_eq, BitVec.toInt_eq_toNat_bmod]
  have := b.isLt
  simp only [Int.bmod, Nat.reducePow]
  split <;> split <;> omega
theorem ofInt_toInt (b : B) : BitVec.ofInt IntKind.i64.bits b.toInt = b := BitVec.ofInt_toInt
theorem iand_t (a b : B) : iand .i64 a.toInt b.toInt = (a &&& b).toInt := by
  unfold iand
  rw [ofInt_toInt, ofInt_toInt]
  exact wrap_bits _
theorem ior_t (a b : B) : ior .i64 a.toInt b.toInt = (a ||| b).toInt := by
  unfold ior
  rw [ofInt_toInt, ofInt_toInt]
  exact wrap_bits _
def bitB (n : Nat) : B := BitVec.twoPow 64 n
theorem bitB_get (n m : Nat) (h : n < 64) : (bitB n).getLsbD m = decide (m = n) := by
  unfold bitB
  rw [BitVec.getLsbD_twoPow]
  by_cases e : n = m
  · subst e; simp [h]
  · have : ¬ m = n := fun h => e h.symm
    simp [e, this]
theorem ishl_t (n : Nat) (h : n < 64) : ishl .i64 1 (n : Int) = (bitB n).toInt := by
  unfold ishl
  have e : min ((n : Int).toNat) IntKind.i64.bits = n := by
    show min ((n : Int).toNat) 64 = n
    omega
  rw [e, ← wrap_bits, Int.one_mul]
  unfold bitB
  rw [BitVec.toNat_twoPow, Nat.mod_eq_of_lt (Nat.pow_lt_pow_right (by omega) h)]
  simp
theorem bit_ev (n : Nat) (h : n < 64) : spec_l08Bit (n : Int) = some (bitB n).toInt := by
  unfold spec_l08Bit
  have : IntKind.u64.wrap (n : Int) = (n : Int) := by
    show (n : Int) % 18446744073709551616 = n
    omega
  rw [this, ishl_t n h]
  unfold L.gd
  rw [if_pos (by omega)]
theorem test_t (b : B) (n : Nat) (h : n < 64) : iand .i64 (ishr .i64 b.toInt (n : Int)) 1 = if b.getLsbD n then 1 else 0 := by
  have e : min ((n : Int).toNat) IntKind.i64.bits = n := by
    show min ((n : Int).toNat) 64 = n
    omega
  have e1 : ishr .i64 b.toInt (n : Int) = (b.sshiftRight n).toInt := by
    unfold ishr
    rw [e, BitVec.toInt_sshiftRight]
    rw [Int.shiftRight_eq_div_pow]
    rw [Int.fdiv_eq_ediv_of_nonneg _ (by exact_mod_cast Nat.zero_le (2 ^ n))]
    norm_cast
  have e2 : (1 : Int) = (1#64 : B).toInt := by decide
  rw [e1]
  conv => lhs; rw [e2]
  rw [iand_t]
  have e3 : (b.sshiftRight n &&& 1#64) = if b.getLsbD n then 1#64 else 0#64 := by
    apply BitVec.eq_of_getLsbD_eq
    intro i hi
    rw [BitVec.getLsbD_and, BitVec.getLsbD_sshiftRight]
    by_cases z : i = 0
    · subst z
      cases hb : b.getLsbD n <;> simp [hb, h]
    · have : (1#64 : B).getLsbD i = false := by
        rw [BitVec.getLsbD_one]
        simp [z]
      rw [this, Bool.and_false]
      cases b.getLsbD n with
      | false => simp
      | true => simpa using this.symm
  rw [e3]
  split <;> decide
abbrev tI (ds : List B) : List Int := ds.map BitVec.toInt
theorem tI_get {ds : List B} {x : Nat} {v : B} (h : ds[x]? = some v) : (tI ds)[x]? = some v.toInt := by simp [tI, h]
theorem tI_set (ds : List B) (x : Nat) (v : B) : (tI ds).set x v.toInt = tI (ds.set x v) := by simp [tI, List.map_set]
theorem toInt_ne (a b : B) : (a.toInt != b.toInt) = (a != b) := by
  by_cases h : a = b
  · subst h; simp
  · have : ¬ a.toInt = b.toInt := fun e => h (BitVec.eq_of_toInt_eq e)
    rw [bne_iff_ne.2 h, bne_iff_ne.2 this]
def at0 (ds : List B) (i : Nat) : B := (ds[i]?).getD 0#64
theorem at0_of {ds : List B} {i : Nat} {v : B} (h : ds[i]? = some v) : at0 ds i = v := by simp [at0, h]
def meet (ds : List B) : List Int → B → B
  | [], m => m
  | p :: ps, m => meet ds ps (m &&& at0 ds p.toNat)
def newB (pr : Nat → List Int) (all : B) (ds : List B) (i : Nat) : B := meet ds (pr i) all ||| bitB i
def sweep (pr : Nat → List Int) (all : B) (live : Nat → Bool) : Nat → Nat → List B → Bool → List B × Bool
  | 0, _, ds, c => (ds, c)
  | d + 1, i, ds, c => if live i = true then sweep pr all live d (i + 1) (ds.set i (newB pr all ds i)) (c || newB pr all ds i != at0 ds i) else sweep pr all live d (i + 1) ds c
inductive Rounds (pr : Nat → List Int) (all : B) (live : Nat → Bool) (len : Nat) : List B → List B → Prop
  | stop {ds ds' : List B} (h : sweep pr all live (len - 1) 1 ds false = (ds', false)) : Rounds pr all live len ds ds'
  | go {ds ds' out : List B} (h : sweep pr all live (len - 1) 1 ds false = (ds', true)) (h2 : Rounds pr all live len ds' out) : Rounds pr all live len ds out
def Sub (a b : B) : Prop := ∀ n, a.getLsbD n = true → b.getLsbD n = true
theorem Sub.refl (a : B) : Sub a a := fun _ h => h
theorem Sub.and {a b : B} (h : Sub a b) : a &&& b = a := by
  apply BitVec.eq_of_getLsbD_eq
  intro n _
  rw [BitVec.getLsbD_and]
  cases e : a.getLsbD n with
  | false => rfl
  | true => rw [h n e]; rfl
theorem Sub.le {a b : B} (h : Sub a b) : a.toNat ≤ b.toNat := by
  rw [← h.and, BitVec.toNat_and]
  exact Nat.and_le_right
theorem meet_sub {ds ds' : List B} (h : ∀ j, Sub (at0 ds' j) (at0 ds j)) : ∀ (ps : List Int) (m' m : B), Sub m' m → Sub (meet ds' ps m') (meet ds ps m)
  | [], _, _, hm => hm
  | p :: ps, m', m, hm => by
    refine meet_sub h ps _ _ fun n hn => ?_
    rw [BitVec.getLsbD_and, Bool.and_eq_true] at hn ⊢
    exact ⟨hm n hn.1, h _ n hn.2⟩
theorem meet_into (ds : List B) : ∀ (ps : List Int) (m : B), Sub (meet ds ps m) m
  | [], m => Sub.refl m
  | p :: ps, m => fun n hn => by
    have := meet_into ds ps _ n hn
    rw [BitVec.getLsbD_and, Bool.and_eq_true] at this
    exact this.1
theorem newB_sub {ds ds' : List B} (h : ∀ j, Sub (at0 ds' j) (at0 ds j)) (pr : Nat → List Int) (all : B) (i : Nat) : Sub (newB pr all ds' i) (newB pr all ds i) := by
  intro n hn
  unfold newB at hn ⊢
  rw [BitVec.getLsbD_or, Bool.or_eq_true] at hn ⊢
  rcases hn with hn | hn
  · exact .inl (meet_sub h _ _ _ (Sub.refl _) n hn)
  · exact .inr hn
structure SInv (pr : Nat → List Int) (all : B) (live : Nat → Bool) (len : Nat) (ds : List B) : Prop where
  size : ds.length = len
  below : ∀ i, 1 ≤ i → i < len → live i = true → Sub (newB pr all ds i) (at0 ds i)
  own : ∀ i, i < len → live i = true → (at0 ds i).getLsbD i = true
def tot : List B → Nat
  | [] => 0
  | v :: ds => v.toNat + tot ds
theorem tot_set : ∀ (ds : List B) (i : Nat) (v : B), i < ds.length → tot (ds.set i v) + (at0 ds i).toNat = tot ds + v.toNat
  | [], i, v, h => by simp at h
  | a :: ds, 0, v, h => by simp [tot, at0]; omega
  | a :: ds, i + 1, v, h => by
    have := tot_set ds i v (by simpa using h)
    simp only [List.set_cons_succ, tot, at0, List.getElem?_cons_succ] at this ⊢
    omega
theorem at0_set {ds : List B} {i : Nat} (v : B) (h : i < ds.length) (j : Nat) : at0 (ds.set i v) j = if i = j then v else at0 ds j := by
  unfold at0
  by_cases e : i = j
  · subst e; rw [List.getElem?_set_self h]; simp
  · rw [List.getElem?_set_ne e]; simp [e]
theorem SInv.step {pr : Nat → List Int} {all : B} {live : Nat → Bool} {len : Nat} {ds : List B} (h : SInv pr all live len ds) (hl : len ≤ 64) {i : Nat} (h1 : 1 ≤ i) (h2 : i < len) (h3 : live i = true) :
    SInv pr all live len (ds.set i (newB pr all ds i)) ∧ tot (ds.set i (newB pr all ds i)) ≤ tot ds ∧ (newB pr all ds i ≠ at0 ds i → tot (ds.set i (newB pr all ds i)) < tot ds) := by
  have hi : i < ds.length := by rw [h.size]; exact h2
  have hs := h.below i h1 h2 h3
  have ht := tot_set ds i (newB pr all ds i) hi
  have hle := hs.le
  have hdown : ∀ j, Sub (at0 (ds.set i (newB pr all ds i)) j) (at0 ds j) := by
    intro j
    rw [at0_set _ hi]
    split
    · rename_i e; subst e; exact hs
    · exact Sub.refl _
  refine ⟨⟨by simp [h.size], fun j j1 j2 j3 => ?_, fun j j2 j3 => ?_⟩, by omega, fun hne => ?_⟩
  · have := newB_sub hdown pr all j
    rw [at0_set _ hi]
    split
    · rename_i e; subst e; exact this
    · exact fun n hn => h.below j j1 j2 j3 n (this n hn)
  · rw [at0_set _ hi]
    split
    · rename_i e
      subst e
      unfold newB
      rw [BitVec.getLsbD_or, bitB_get _ _ (by omega)]
      simp
    · exact h.own j j2 j3
  · have : (newB pr all ds i).toNat ≠ (at0 ds i).toNat := fun e => hne (BitVec.eq_of_toNat_eq e)
    omega
theorem sweep_inv {pr : Nat → List Int} {all : B} {live : Nat → Bool} {len : Nat} (hl : len ≤ 64) : ∀ (d i : Nat) (ds : List B) (c : Bool), SInv pr all live len ds → 1 ≤ i → i + d ≤ len →
    SInv pr all live len (sweep pr all live d i ds c).1 ∧ tot (sweep pr all live d i ds c).1 ≤ tot ds ∧ ((sweep pr all live d i ds c).2 = true → c = true ∨ tot (sweep pr all live d i ds c).1 < tot ds)
  | 0, i, ds, c, h, h1, h2 => ⟨h, Nat.le_refl _, fun e => .inl e⟩
  | d + 1, i, ds, c, h, h1, h2 => by
    unfold sweep
    split
    · rename_i hv
      obtain ⟨g1, g2, g3⟩ := h.step hl h1 (by omega) hv
      obtain ⟨k1, k2, k3⟩ := sweep_inv hl d (i + 1) _ (c || newB pr all ds i != at0 ds i) g1 (by omega) (by omega)
      refine ⟨k1, by omega, fun e => ?_⟩
      rcases k3 e with k | k
      · rw [Bool.or_eq_true] at k
        rcases k with k | k
        · exact .inl k
        · have := g3 (bne_iff_ne.1 k)
          exact .inr (by omega)
      · exact .inr (by omega)
    · exact sweep_inv hl d (i + 1) ds c h (by omega) (by omega)
theorem rounds_ex {pr : Nat → List Int} {all : B} {live : Nat → Bool} {len : Nat} (hl : len ≤ 64) (h1 : 1 ≤ len) : ∀ (n : Nat) (ds : List B), tot ds = n → SInv pr all live len ds → ∃ out, Rounds pr all live len ds out ∧ SInv pr all live len out := by
  intro n
  induction n using Nat.strongRecOn with
  | ind n ih =>
    intro ds hn h
    obtain ⟨k1, k2, k3⟩ := sweep_inv hl (len - 1) 1 ds false h (by omega) (by omega)
    cases e : sweep pr all live (len - 1) 1 ds false with
    | mk ds' c =>
      rw [e] at k1 k2 k3
      cases c with
      | false => exact ⟨ds', .stop e, k1⟩
      | true =>
        have : tot ds' < tot ds := by
          rcases k3 rfl with k | k
          · cases k
          · exact k
        obtain ⟨out, o1, o2⟩ := ih (tot ds') (by omega) ds' rfl k1
        exact ⟨out, .go e o1, o2⟩
end Go.Proofs.Ytdlaplgofgklnaa