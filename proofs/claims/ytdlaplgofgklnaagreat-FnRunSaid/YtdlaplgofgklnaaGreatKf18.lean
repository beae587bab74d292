/- WHAT IS PROVED: an abstract walker over the model, what some functions of the program answer, and laws of these answers. Conditions: none. -/
import Derived.Test.YtdlaplgofgklnaaGreatKf16
import Derived.Test.YtdlaplgofgklnaaGreatKf17
namespace Go.Proofs.YtdlaplgofgklnaaGreat
open Go.Proofs Go.Proofs.YtdlaplgofgklnaaGreat.L
set_option maxHeartbeats 8000000
set_option linter.unusedSimpArgs false
set_option linter.unusedVariables false
set_option maxRecDepth 100000
set_option linter.defProp false
def spec_l01Src_l03Program.l1 : Nat → Gl01Src → GProgram → GProgram → (List Int) → Int → Option (Gl01Src × GProgram × GProgram × (List Int))
  | 0, _, _, _, _, _ => none
  | k + 1, a1, a2, a3, a4, a5 => cond ((decide (a5 > 0))) ((spec_l01Src_n k a1 3).bind fun t2 => gd ((a4.length + 1) * 8 ≤ 35184372088832 ∧ a4.length + 1 ≤ 35184372088832) (spec_l01Src_l03Program.l1 k t2.2 a2 a3 ((a4 ++ [t2.1])) ((IntKind.i64.wrap (a5 - 1))))) (some (a1, a2, a3, a4))
def spec_l01Src_l03Program.l3 : Nat → GProgram → GProgram → Gl03Gen → Int → Int → Option (GProgram × GProgram × Gl03Gen × Int)
  | 0, _, _, _, _, _ => none
  | k + 1, a1, a2, a3, a4, a5 => cond ((decide (a5 > 0))) ((spec_l03Gen_stmt k a3 2).bind fun t7 => gd (t7.args.length = a3.args.length) (spec_l01Src_l03Program.l3 k a1 a2 t7 a4 ((IntKind.i64.wrap (a5 - 1))))) (some (a1, a2, a3, a4))
def spec_l01Src_l03Program.l2 : Nat → Gl01Src → GProgram → GProgram → (List Int) → Int → Option (Gl01Src × GProgram × GProgram)
  | 0, _, _, _, _, _ => none
  | k + 1, a1, a2, a3, a4, a5 => cond ((decide (a5 < ((a4.length : Int))))) ((idx a4 a5).bind fun m3 => (spec_l01Src_n k a1 4).bind fun t4 => (spec_l01Min 8 ((IntKind.i64.wrap (m3 + t4.1)))).bind fun t5 => (spec_l01Src_n k t4.2 3).bind fun t6 => (spec_l01Src_l03Program.l3 k a2 a3 ((⟨t6.2, a4, t5, [], (IntKind.i64.wrap (10 + ((IntKind.i64.wrap (2 * a1.size)))))⟩ : Gl03Gen)) a5 ((IntKind.i64.wrap (1 + t6.1)))).bind fun o3 => gd (o3.2.2.1.args.length = a4.length) ((spec_l03Gen_expr k o3.2.2.1 2).bind fun t8 => gd (t8.args.length = a4.length) ((spec_l03Gen_put t8 33 0).bind fun t9 => gd (t9.2.args.length = a4.length) ((idx t9.2.args o3.2.2.2).bind fun m10 => gd ((o3.2.1.funcs.length + 1) * 40 ≤ 35184372088832 ∧ o3.2.1.funcs.length + 1 ≤ 35184372088832) (spec_l01Src_l03Program.l2 k t9.2.s o3.1 ((⟨(o3.2.1.funcs ++ [(⟨m10, t9.2.locals, t9.2.code⟩ : GFunc)])⟩ : GProgram)) t9.2.args ((IntKind.i64.wrap (o3.2.2.2 + 1)))))))) (some (a1, a2, a3))
def spec_l01Src_l03Program (k : Nat) (p0 : Gl01Src) : Option (GProgram × Gl01Src) :=
  (spec_l01Src_n k p0 3).bind fun t1 => (spec_l01Src_l03Program.l1 k t1.2 ((⟨[]⟩ : GProgram)) ((⟨[]⟩ : GProgram)) [] ((IntKind.i64.wrap (1 + t1.1)))).bind fun o1 => (spec_l01Src_l03Program.l2 k o1.1 o1.2.1 o1.2.2.1 o1.2.2.2 0).bind fun o2 => (spec_l01Src_one k o2.1 12).bind fun t11 => cond t11.1 ((spec_l01Src_l03Spoil k t11.2 o2.2.2).bind fun t12 => some (t12.2, t12.1)) (some (o2.2.2, t11.2))
theorem keep_n {k : Nat} {p : Gl01Src} {m : Int} {r : Int × Gl01Src} (h : spec_l01Src_n k p m = some r) : r.2.size = p.size := by
  unfold spec_l01Src_n spec_l01Src_n.a1 at h
  cases e : decide (m ≤ 1) with
  | true => rw [e] at h; simp only [cond_true, Option.some.injEq] at h; rw [← h]
  | false =>
    rw [e] at h
    simp only [cond_false] at h
    obtain ⟨o1, ho, h⟩ := bind_some h
    have hs : o1.1.size = p.size := by
      cases e2 : decide (p.at0 < ((p.b.length : Int))) with
      | true =>
        rw [e2] at ho
        simp only [cond_true] at ho
        obtain ⟨y, -, ho⟩ := bind_some ho
        simp only [Option.some.injEq] at ho
        rw [← ho]
      | false => rw [e2] at ho; simp only [cond_false, Option.some.injEq] at ho; rw [← ho]
    have h3 := (gd_some h).2
    simp only [Option.some.injEq] at h3
    rw [← h3]
    exact hs
theorem c_spec_l01Src_l03Program {k : Nat} {p0 : Gl01Src} {r : GProgram × Gl01Src} (h : spec_l01Src_l03Program k p0 = some r) : Con Tryz.prog 66 [.mp 0 4 0 0] [.o 4 [[.d (.row .bor 1 (Rw (cI .u8) p0.b)), V.int p0.at0, .d (.p (.int .u64 p0.mix)), V.int p0.size]]] (.agg [.d (.row .frz 3 (Rw (GFunc.cells .frz) r.1.funcs))]) [.o 4 [[.d (.row .bor 1 (Rw (cI .u8) r.2.b)), V.int r.2.at0, .d (.p (.int .u64 r.2.mix)), V.int r.2.size]]] := by
  refine csw Tryz.func66 Tryz.call66 (by simp [Tryz.ntmps66]) (h := ?_)
  rw [Tryz.ntmps66, Tryz.results66]
  unfold spec_l01Src_l03Program at h
  replace h := Yes.mk h
  simp only [entryS, entryO, Nat.reduceAdd, List.length_nil, List.length_cons]
  repeat' (first
 | (with_reducible refine here_reg (i := 17) ?_
    refine sw_gh ?_
    with_reducible apply gh_nameCell 129 0
    · simp only [lkd, lkb, reduceCtorEq, Nat.reduceEqDiff]; rfl
    · rfl
    simp only [List.set_cons_zero, List.set_cons_succ, Nat.reduceAdd, Rw_length]
    with_reducible apply gh_nameCell 20001344 3
    · simp only [lkd, lkb, reduceCtorEq, Nat.reduceEqDiff]; rfl
    · rfl
    simp only [List.set_cons_zero, List.set_cons_succ, Nat.reduceAdd, Rw_length]
    refine gh_sw ?_)
 | (with_reducible refine here_reg (i := 10) ?_
    with_reducible apply sw_drawS 0 3 mixed
    · simp only [lkd, lkb, reduceCtorEq, Nat.reduceEqDiff]; rfl
    · rfl)
 | (with_reducible apply regS_nil
    · simp only [lkd, lkb, reduceCtorEq, Nat.reduceEqDiff]; rfl
    · rfl
    refine ⟨by kernel_rfl, ?_⟩)
 | (with_reducible apply regS_load
    · simp only [lkd, lkb, reduceCtorEq, Nat.reduceEqDiff]; rfl
    · rfl
    · simp only [dstOk, Nat.reduceLT]
    · simp only [Nat.reduceAdd]; rfl
    · simp only [lkd, lkb, reduceCtorEq, Nat.reduceEqDiff]; try rfl
    · simp only [ty2, ty3, ty5, ty22, ty23, ty25, ty28, ty85, ty92, ty94, ty98, ty138, ty140, ty142, ty145, ty149]; try rfl
    · rfl
    · rfl
    · rfl)
 | (with_reducible apply regS_opK
    · simp only [lkd, lkb, reduceCtorEq, Nat.reduceEqDiff]; rfl
    · rfl
    · simp only [dstOk, Nat.reduceLT]
    · simp only [Nat.reduceAdd]; rfl
    intro k hk
    simp only [bn, lkb, evb, evd, Value.oneCell', setSeg, reduceCtorEq, Nat.reduceAdd, Nat.reduceMul, Nat.reduceSub, Nat.reduceLT, Nat.reduceLeDiff, Nat.reduceEqDiff, Int.reduceNeg, Int.reduceToNat, ty2, ty3, ty5, ty22, ty23, ty25, ty28, ty85, ty92, ty94, ty98, ty138, ty140, ty142, ty145, ty149, GFunc.cells, GI2.cells, GProgram.cells, Gl01Src.cells, cI, cB, cS, cL, Gl01Src_e, GI2_e, GFunc_e, GProgram_e, LcIi64_e, buildP, buildSliceP, putParts, structPlaces, chunks, List.replicate, List.flatten_nil, List.flatten_cons, Option.bind_some, bb, GFunc_b, nilEqP, ne_eq, not_false_eq_true, not_true_eq_false, Gl01Src_fset, Gl01Src_fone, Gl01Src_fcons, Gl01Src_fdone, Gl01Src_fdcons, GFunc_fset, GFunc_fone, GFunc_fcons, GFunc_fdone, GFunc_fdcons, GProgram_fset, GProgram_fone, GProgram_fcons, GProgram_fdone, GProgram_fdcons, *]
    try (refine hk.use _ _ _ _ ?_; clear hk k))
 | (with_reducible (first | refine sw_reg ?_ | refine sw_ret ?_ | refine sw_skip ?_ | refine sw_block ?_ | refine sw_exit ?_ | refine seqQ_normal ?_ | refine blockQ_normal ?_ | refine blockQ_ret ?_ | refine blockQ_this ?_ | refine blockQ_other (by decide) ?_ | refine regW_nil ?_ | refine sw_draw mixed ?_ | refine retQ_ret ?_ | refine retQ_normal ?_))
 | (with_reducible refine regD_nil ?_
    refine ⟨by kernel_rfl, ?_⟩)
 | (revert h; (first | ((with_reducible refine idx_elim ?_); intro m hm1 hm2 hm3 h; (try (simp only [Int.reduceToNat] at hm3)); (try (revert hm3; (with_reducible apply same_elim); (focus (with_reducible assumption)); rintro rfl)); (try (simp only [List.length_set, List.length_cons, List.length_nil, List.length_replicate, Nat.reduceAdd, Int.cast_ofNat_Int, Nat.zero_add, List.length_append] at hm2)); (try (simp only [*] at hm2))) | (with_reducible refine sidx_elim ?_; intro m hm1 hm3 h) | (with_reducible refine gd_elim ?_; intro hg h; try (have hg2 := hg.2; have hg := hg.1; (try (simp only [Nat.reduceLeDiff] at hg2)); (try (revert hg2; (with_reducible refine toNat_elim hg ?_); intro hg2 hg4)); try (have hg3 := hg2.2; have hg2 := hg2.1; (try (simp only [Nat.reduceLeDiff] at hg3))))) | (with_reducible refine condt_elim ?_ ?_; (focus (with_reducible assumption)); intro h) | (with_reducible refine condf_elim ?_ ?_; (focus (with_reducible assumption)); intro h)))
 | ((first | with_reducible refine seqQ_ret (K := (fun st1 n1 => Gh st1 n1 (NextS _ 30000000 _ _ _ _))) ?_ | with_reducible refine seqQ_exit (K := (fun st1 n1 => Gh st1 n1 (NextS _ 30000000 _ _ _ _))) ?_)
    obtain rfl := h.get
    have h := hK3
    (try (simp only [Sum.elim_inl, Sum.elim_inr] at h)))
 | ((first | with_reducible refine seqQ_ret (K := (fun st1 n1 => Gh st1 n1 (NextS _ 20000000 _ _ _ _))) ?_ | with_reducible refine seqQ_exit (K := (fun st1 n1 => Gh st1 n1 (NextS _ 20000000 _ _ _ _))) ?_)
    obtain rfl := h.get
    have h := hK2
    (try (simp only [Sum.elim_inl, Sum.elim_inr] at h)))
 | ((first | with_reducible refine seqQ_ret (K := (fun st1 n1 => Gh st1 n1 (NextS _ 10000000 _ _ _ _))) ?_ | with_reducible refine seqQ_exit (K := (fun st1 n1 => Gh st1 n1 (NextS _ 10000000 _ _ _ _))) ?_)
    obtain rfl := h.get
    have h := hK1
    (try (simp only [Sum.elim_inl, Sum.elim_inr] at h)))
 | (with_reducible refine here_loop (c := (.seq (.seq (.region 12 _ _) _) _)) ?_
    skip
    revert h
    with_reducible refine bind_elimY ?_
    intro o3 h hK3
    refine sw_gh ?_
    (try (apply gh_conv 20001344; (focus (simp only [lkd, lkb, reduceCtorEq, Nat.reduceEqDiff]; try rfl)); (focus (exact .cons (.cons .same (.cons .same (.cons .same (.cons (.nil (m := .own) (s := 2)) (.cons .same (.nil)))))) .nil))))
    refine gh_sw ?_
    refine sw_loop (ι := Nat × GProgram × GProgram × Gl03Gen × Int × Int) 30000000 (by decide) (fun x : Nat × GProgram × GProgram × Gl03Gen × Int × Int => [(.s 0, some (.v (.mp 0 4 0 0))), (.s 2, some (.v (.mp 1 1 0 0))), (.s 3, some (.v (.mp 129 1 0 0))), (.s 4, some (.v (.sl 10000000 1 0 x.2.2.2.1.args.length))), (.s 6, some (.v (V.int x.2.2.2.2.1))), (.s 7, some (.v (.mp 20001344 5 0 0))), (.s 8, some (.v (V.int x.2.2.2.2.2))), (.r 1, some (.o 1 [[.d (.row .own 3 (Rw (GFunc.cells .own) x.2.1.funcs))]])), (.r 129, some (.o 1 [[.d (.row .own 3 (Rw (GFunc.cells .own) x.2.2.1.funcs))]])), (.r 20001344, some (.o 5 [[.mp 0 4 0 0, .sl 10000000 1 0 x.2.2.2.1.args.length, V.int x.2.2.2.1.locals, .d (.row .own 2 (Rw GI2.cells x.2.2.2.1.code)), V.int x.2.2.2.1.most]])), (.r 0, some (.o 4 [[.d (.row .bor 1 (Rw (cI .u8) x.2.2.2.1.s.b)), V.int x.2.2.2.1.s.at0, .d (.p (.int .u64 x.2.2.2.1.s.mix)), V.int x.2.2.2.1.s.size]])), (.r 10000000, some (.o 1 (dd (Rw (cI .i64) x.2.2.2.1.args))))]) (fun x => x.1) (fun x => Yes (spec_l01Src_l03Program.l3 x.1 x.2.1 x.2.2.1 x.2.2.2.1 x.2.2.2.2.1 x.2.2.2.2.2) o3) (_, _, _, _, _, _) ?_ h ?_ ?_
    · exact (by simp [sld])
    · simp only [SubL, lkd, lkb, reduceCtorEq, Nat.reduceEqDiff, List.length_set, List.length_replicate]; repeat' (first | apply And.intro | rfl | trivial | (simp only [*]; done))
    rintro ⟨_ | k, a1, a2, a3, a4, a5⟩ h
    · simp only [spec_l01Src_l03Program.l3] at h; exact h.none
    simp only [spec_l01Src_l03Program.l3] at h
)
 | (with_reducible refine here_next (N0 := 30000000) ?_
    skip
    (try (apply gh_conv 20001344; (focus (simp only [lkd, lkb, reduceCtorEq, Nat.reduceEqDiff]; try rfl)); (focus (exact .cons (.cons .same (.cons .same (.cons .same (.cons (.nil (m := .own) (s := 2)) (.cons .same (.nil)))))) .nil))))
    refine nexts_to (_, _, _, _, _, _) (by decide) ?_ (Nat.lt_succ_self _) h ?_
    · exact (by simp [sld])
    · simp only [SubL, lkd, lkb, reduceCtorEq, Nat.reduceEqDiff, List.length_set, List.length_replicate]; repeat' (first | apply And.intro | rfl | trivial | (simp only [*]; done)))
 | (with_reducible refine here_loop (c := (.seq (.seq (.region 8 _ _) _) _)) ?_
    skip
    revert h
    with_reducible refine bind_elimY ?_
    intro o2 h hK2
    refine sw_loop (ι := Nat × Gl01Src × GProgram × GProgram × (List Int) × Int) 20000000 (by decide) (fun x : Nat × Gl01Src × GProgram × GProgram × (List Int) × Int => [(.s 0, some (.v (.mp 0 4 0 0))), (.s 2, some (.v (.mp 1 1 0 0))), (.s 3, some (.v (.mp 129 1 0 0))), (.s 4, some (.v (.sl 10000000 1 0 x.2.2.2.2.1.length))), (.s 6, some (.v (V.int x.2.2.2.2.2))), (.r 0, some (.o 4 [[.d (.row .bor 1 (Rw (cI .u8) x.2.1.b)), V.int x.2.1.at0, .d (.p (.int .u64 x.2.1.mix)), V.int x.2.1.size]])), (.r 1, some (.o 1 [[.d (.row .own 3 (Rw (GFunc.cells .own) x.2.2.1.funcs))]])), (.r 129, some (.o 1 [[.d (.row .own 3 (Rw (GFunc.cells .own) x.2.2.2.1.funcs))]])), (.r 10000000, some (.o 1 (dd (Rw (cI .i64) x.2.2.2.2.1))))]) (fun x => x.1) (fun x => Yes (spec_l01Src_l03Program.l2 x.1 x.2.1 x.2.2.1 x.2.2.2.1 x.2.2.2.2.1 x.2.2.2.2.2) o2) (_, _, _, _, _, _) ?_ h ?_ ?_
    · exact (by simp [sld])
    · simp only [SubL, lkd, lkb, reduceCtorEq, Nat.reduceEqDiff, List.length_set, List.length_replicate]; repeat' (first | apply And.intro | rfl | trivial | (simp only [*]; done))
    rintro ⟨_ | k, a1, a2, a3, a4, a5⟩ h
    · simp only [spec_l01Src_l03Program.l2] at h; exact h.none
    simp only [spec_l01Src_l03Program.l2] at h
)
 | (with_reducible refine here_next (N0 := 20000000) ?_
    skip
    refine nexts_to (_, _, _, _, _, _) (by decide) ?_ (Nat.lt_succ_self _) h ?_
    · exact (by simp [sld])
    · simp only [SubL, lkd, lkb, reduceCtorEq, Nat.reduceEqDiff, List.length_set, List.length_replicate]; repeat' (first | apply And.intro | rfl | trivial | (simp only [*]; done)))
 | (with_reducible refine here_loop (c := (.seq (.seq (.region 4 _ _) _) _)) ?_
    skip
    revert h
    with_reducible refine bind_elimY ?_
    intro o1 h hK1
    refine sw_gh ?_
    refine gh_resSlot 4 ?_
    simp only [rxb, Nat.reduceAdd, Nat.reduceLeDiff, rxd, lkd, lkb, reduceCtorEq, Nat.reduceEqDiff, *]
    (try (apply gh_conv 1; (focus (simp only [lkd, lkb, reduceCtorEq, Nat.reduceEqDiff]; try rfl)); (focus (apply All2.cons; (focus (apply All2.cons; (focus (first | exact Conv1.nil (m := .own) (s := 3) | exact .same)); exact .nil)); exact .nil))))
    (try (apply gh_conv 129; (focus (simp only [lkd, lkb, reduceCtorEq, Nat.reduceEqDiff]; try rfl)); (focus (apply All2.cons; (focus (apply All2.cons; (focus (first | exact Conv1.nil (m := .own) (s := 3) | exact .same)); exact .nil)); exact .nil))))
    refine gh_sw ?_
    refine sw_loop (ι := Nat × Gl01Src × GProgram × GProgram × (List Int) × Int) 10000000 (by decide) (fun x : Nat × Gl01Src × GProgram × GProgram × (List Int) × Int => [(.s 0, some (.v (.mp 0 4 0 0))), (.s 2, some (.v (.mp 1 1 0 0))), (.s 3, some (.v (.mp 129 1 0 0))), (.s 4, some (.v (.d (.row .own 1 (Rw (cI .i64) x.2.2.2.2.1))))), (.s 5, some (.v (V.int x.2.2.2.2.2))), (.r 0, some (.o 4 [[.d (.row .bor 1 (Rw (cI .u8) x.2.1.b)), V.int x.2.1.at0, .d (.p (.int .u64 x.2.1.mix)), V.int x.2.1.size]])), (.r 1, some (.o 1 [[.d (.row .own 3 (Rw (GFunc.cells .own) x.2.2.1.funcs))]])), (.r 129, some (.o 1 [[.d (.row .own 3 (Rw (GFunc.cells .own) x.2.2.2.1.funcs))]]))]) (fun x => x.1) (fun x => Yes (spec_l01Src_l03Program.l1 x.1 x.2.1 x.2.2.1 x.2.2.2.1 x.2.2.2.2.1 x.2.2.2.2.2) o1) (_, _, _, _, _, _) ?_ h ?_ ?_
    · exact (by simp [sld])
    · simp only [SubL, lkd, lkb, reduceCtorEq, Nat.reduceEqDiff, List.length_set, List.length_replicate]; repeat' (first | apply And.intro | rfl | trivial | (simp only [*]; done))
    rintro ⟨_ | k, a1, a2, a3, a4, a5⟩ h
    · simp only [spec_l01Src_l03Program.l1] at h; exact h.none
    simp only [spec_l01Src_l03Program.l1] at h
    refine sw_gh ?_
    refine gh_nameSlot 4 ?_
    simp only [rxb, Nat.reduceAdd, Nat.reduceLeDiff, rxd, lkd, lkb, reduceCtorEq, Nat.reduceEqDiff, Nat.reduceAdd]
    refine gh_sw ?_
)
 | (with_reducible refine here_next (N0 := 10000000) ?_
    skip
    refine gh_resSlot 4 ?_
    simp only [rxb, Nat.reduceAdd, Nat.reduceLeDiff, rxd, lkd, lkb, reduceCtorEq, Nat.reduceEqDiff, *]
    (try (apply gh_conv 1; (focus (simp only [lkd, lkb, reduceCtorEq, Nat.reduceEqDiff]; try rfl)); (focus (apply All2.cons; (focus (apply All2.cons; (focus (first | exact Conv1.nil (m := .own) (s := 3) | exact .same)); exact .nil)); exact .nil))))
    (try (apply gh_conv 129; (focus (simp only [lkd, lkb, reduceCtorEq, Nat.reduceEqDiff]; try rfl)); (focus (apply All2.cons; (focus (apply All2.cons; (focus (first | exact Conv1.nil (m := .own) (s := 3) | exact .same)); exact .nil)); exact .nil))))
    refine nexts_to (_, _, _, _, _, _) (by decide) ?_ (Nat.lt_succ_self _) h ?_
    · exact (by simp [sld])
    · simp only [SubL, lkd, lkb, reduceCtorEq, Nat.reduceEqDiff, List.length_set, List.length_replicate]; repeat' (first | apply And.intro | rfl | trivial | (simp only [*]; done)))
 | with_reducible refine sw_seq ?_
 | with_reducible refine seqQ_ret ?_
 | with_reducible refine seqQ_exit ?_
 | (with_reducible refine here_retw ?_
    with_reducible apply gh_resSl 1 0
    · simp only [lkd, lkb, reduceCtorEq, Nat.reduceEqDiff]; rfl
    · rfl
    simp only [rxb, Nat.reduceAdd, Nat.reduceLeDiff, rxd, lkd, lkb, reduceCtorEq, Nat.reduceEqDiff, *])
 | (with_reducible refine here_retw ?_
    with_reducible apply gh_frz 1 0
    · simp only [lkd, lkb, reduceCtorEq, Nat.reduceEqDiff]; rfl
    · rfl
    · exact .all
    simp only [List.set_cons_zero, List.set_cons_succ, Md.fz, Gl01Src_frz, GI2_frz, GFunc_frz, GProgram_frz, LcIi64_frz])
 | ((with_reducible refine wp_ite ?_ ?_)
    all_goals (intro hc; (try (simp only [Bool.not_eq_true, Bool.not_eq_false] at hc)); simp only [hc]))
 | (with_reducible refine rskip (hs := ?_) (h2 := ?_)
    · simp only [lkd, lkb, reduceCtorEq, Nat.reduceEqDiff]; done)
 | (with_reducible refine ryes (hs := ?_) (h := ?_)
    · simp only [lkd, lkb, reduceCtorEq, Nat.reduceEqDiff]; done)
 | (with_reducible refine rno (hs := ?_) (h := ?_)
    · simp only [lkd, lkb, reduceCtorEq, Nat.reduceEqDiff, Bool.not_true, Bool.not_false]; done)
 | (with_reducible apply regW_guardN
    · simp only [dstOk, Nat.reduceLT]
    · rfl
    · simp only [lkd, lkb, reduceCtorEq, Nat.reduceEqDiff]; rfl
    all_goals (intro hc; (try (simp only [Bool.not_true, Bool.not_false] at hc))))
 | (with_reducible apply sw_cond
    · simp only [lkd, lkb, reduceCtorEq, Nat.reduceEqDiff]; rfl
    all_goals (intro hc; try (cases hc; done)))
 | ((first
     | ((with_reducible refine gh_ret ?_)
        revert h
        with_reducible refine some_elim ?_
        rintro rfl)
     | (with_reducible refine here_call ?_
        revert h
        with_reducible refine bind_elim ?_
        intro t ht h
        (try (have hkp := keep_n ht))
        (first
          | ((with_reducible refine here_call (f := 98) ?_)
             refine call_obj [0] (c_spec_l01Src_n ht) (by decide) ?_ ?_
             · first | exact .inl rfl | (refine .inr ⟨?_, ?_⟩; (focus (first | rfl | (simp only [nbd, nbb, Gl01Src_nb, GI2_nb, GFunc_nb, GProgram_nb, LcIi64_nb]; done))); (focus (simp [C.nb, V.nbLL, V.nbL, V.nb, D.nb]; done)))
             simp only [obd, hyb, hyd, Gl01Src_lend, GI2_lend, GFunc_lend, GProgram_lend, LcIi64_lend, lkd, lkb, reduceCtorEq, Nat.reduceEqDiff, Prog.wp, Prog.wp_bind, Prog.bind, Prog.ofO, List.take_of_length_le, *])
          | ((with_reducible refine here_call (f := 99) ?_)
             refine call_dataE (c_spec_l01Min ht) ?_ rfl ?_
             · first | rfl | (simp; done))
          | ((with_reducible refine here_call (f := 100) ?_)
             refine call_obj [20001344, 0, 10000000] (c_spec_l03Gen_stmt ht) (by decide) ?_ ?_
             · first | exact .inl rfl | (refine .inr ⟨?_, ?_⟩; (focus (first | rfl | (simp only [nbd, nbb, Gl01Src_nb, GI2_nb, GFunc_nb, GProgram_nb, LcIi64_nb]; done))); (focus (simp [C.nb, V.nbLL, V.nbL, V.nb, D.nb]; done)))
             simp only [obd, hyb, hyd, Gl01Src_lend, GI2_lend, GFunc_lend, GProgram_lend, LcIi64_lend, lkd, lkb, reduceCtorEq, Nat.reduceEqDiff, Prog.wp, Prog.wp_bind, Prog.bind, Prog.ofO, List.take_of_length_le, *])
          | ((with_reducible refine here_call (f := 101) ?_)
             refine call_obj [20001344, 0, 10000000] (c_spec_l03Gen_expr ht) (by decide) ?_ ?_
             · first | exact .inl rfl | (refine .inr ⟨?_, ?_⟩; (focus (first | rfl | (simp only [nbd, nbb, Gl01Src_nb, GI2_nb, GFunc_nb, GProgram_nb, LcIi64_nb]; done))); (focus (simp [C.nb, V.nbLL, V.nbL, V.nb, D.nb]; done)))
             simp only [obd, hyb, hyd, Gl01Src_lend, GI2_lend, GFunc_lend, GProgram_lend, LcIi64_lend, lkd, lkb, reduceCtorEq, Nat.reduceEqDiff, Prog.wp, Prog.wp_bind, Prog.bind, Prog.ofO, List.take_of_length_le, *])
          | ((with_reducible refine here_call (f := 102) ?_)
             refine call_obj [20001344, 0, 10000000] (c_spec_l03Gen_put ht) (by decide) ?_ ?_
             · first | exact .inl rfl | (refine .inr ⟨?_, ?_⟩; (focus (first | rfl | (simp only [nbd, nbb, Gl01Src_nb, GI2_nb, GFunc_nb, GProgram_nb, LcIi64_nb]; done))); (focus (simp [C.nb, V.nbLL, V.nbL, V.nb, D.nb]; done)))
             simp only [obd, hyb, hyd, Gl01Src_lend, GI2_lend, GFunc_lend, GProgram_lend, LcIi64_lend, lkd, lkb, reduceCtorEq, Nat.reduceEqDiff, Prog.wp, Prog.wp_bind, Prog.bind, Prog.ofO, List.take_of_length_le, *])
          | ((with_reducible refine here_call (f := 103) ?_)
             refine call_obj [0] (c_spec_l01Src_one ht) (by decide) ?_ ?_
             · first | exact .inl rfl | (refine .inr ⟨?_, ?_⟩; (focus (first | rfl | (simp only [nbd, nbb, Gl01Src_nb, GI2_nb, GFunc_nb, GProgram_nb, LcIi64_nb]; done))); (focus (simp [C.nb, V.nbLL, V.nbL, V.nb, D.nb]; done)))
             simp only [obd, hyb, hyd, Gl01Src_lend, GI2_lend, GFunc_lend, GProgram_lend, LcIi64_lend, lkd, lkb, reduceCtorEq, Nat.reduceEqDiff, Prog.wp, Prog.wp_bind, Prog.bind, Prog.ofO, List.take_of_length_le, *])
          | ((with_reducible refine here_call (f := 104) ?_)
             refine call_obj [0, 129] (c_spec_l01Src_l03Spoil ht) (by decide) ?_ ?_
             · first | exact .inl rfl | (refine .inr ⟨?_, ?_⟩; (focus (first | rfl | (simp only [nbd, nbb, Gl01Src_nb, GI2_nb, GFunc_nb, GProgram_nb, LcIi64_nb]; done))); (focus (simp [C.nb, V.nbLL, V.nbL, V.nb, D.nb]; done)))
             simp only [obd, hyb, hyd, Gl01Src_lend, GI2_lend, GFunc_lend, GProgram_lend, LcIi64_lend, lkd, lkb, reduceCtorEq, Nat.reduceEqDiff, Prog.wp, Prog.wp_bind, Prog.bind, Prog.ofO, List.take_of_length_le, *])))
     | (with_reducible (first | refine ropD (h := ?_) | refine ropW (h := ?_))
        intro k hk)
     | skip)
    simp only [bn, lkb, evb, evd, Value.oneCell', setSeg, reduceCtorEq, Nat.reduceAdd, Nat.reduceMul, Nat.reduceSub, Nat.reduceLT, Nat.reduceLeDiff, Nat.reduceEqDiff, Int.reduceNeg, Int.reduceToNat, ty2, ty3, ty5, ty22, ty23, ty25, ty28, ty85, ty92, ty94, ty98, ty138, ty140, ty142, ty145, ty149, GFunc.cells, GI2.cells, GProgram.cells, Gl01Src.cells, cI, cB, cS, cL, Gl01Src_e, GI2_e, GFunc_e, GProgram_e, LcIi64_e, buildP, buildSliceP, putParts, structPlaces, chunks, List.replicate, List.flatten_nil, List.flatten_cons, Option.bind_some, bb, GFunc_b, nilEqP, ne_eq, not_false_eq_true, not_true_eq_false, Gl01Src_fset, Gl01Src_fone, Gl01Src_fcons, Gl01Src_fdone, Gl01Src_fdcons, GFunc_fset, GFunc_fone, GFunc_fcons, GFunc_fdone, GFunc_fdcons, GProgram_fset, GProgram_fone, GProgram_fcons, GProgram_fdone, GProgram_fdcons, *]
    try (refine hk.use _ _ _ _ ?_; clear hk k))
 | fail)
  all_goals (try rfl)
  all_goals (try (simp; done))
  all_goals (try (simp_all; done))
set_option linter.defProp false
def impl_known (k : Nat) (p0 : GProgram) : Option (Gprog × Bool) :=
  (impl_verify k p0).bind fun t1 => some ((⟨p0, t1.2⟩ : Gprog), (t1.1.c == 0))
def spec_l04Right (k : Nat) (p0 : GProgram) : Option (Bool) :=
  (spec_Verify k p0).bind fun t1 => some ((t1.c == 0))
theorem gr25 : (∀ {k : Nat} {p0 : GProgram} {r : Gprog × Bool}, impl_known k p0 = some r → Con Tryz.prog 30 [.agg [.d (.row .bor 3 (Rw (GFunc.cells .bor) p0.funcs))]] [] (.tup [.d (.ptr .own [.row .bor 3 (Rw (GFunc.cells .bor) r.1.program.funcs), .row .own 1 (Rw (cL .own 1 (cI .i64)) r.1.h)]), V.bool r.2]) []) ∧
  (∀ {k : Nat} {p0 : GProgram} {r : Bool}, spec_l04Right k p0 = some r → Con Tryz.prog 26 [.agg [.d (.row .bor 3 (Rw (GFunc.cells .bor) p0.funcs))]] [] (V.bool r) []) := by
  refine ⟨?_, ?_⟩
  all_goals intros
  all_goals rename_i h
  all_goals first
    | (with_reducible refine isf 30 ?_
       refine csw Tryz.func30 Tryz.call30 (by simp [Tryz.ntmps30]) (h := ?_)
       refine mkf 30 fun hF => ?_
       rw [Tryz.ntmps30, Tryz.results30]
       unfold impl_known at h)
    | (with_reducible refine isf 26 ?_
       refine csw Tryz.func26 Tryz.call26 (by simp [Tryz.ntmps26]) (h := ?_)
       refine mkf 26 fun hF => ?_
       rw [Tryz.ntmps26, Tryz.results26]
       unfold spec_l04Right at h)
  all_goals (replace h := Yes.mk h; simp only [entryS, entryO, Nat.reduceAdd, List.length_nil, List.length_cons])
  repeat' (first
 | (with_reducible (first | refine sw_reg ?_ | refine sw_ret ?_ | refine sw_skip ?_ | refine sw_block ?_ | refine sw_exit ?_ | refine seqQ_normal ?_ | refine blockQ_normal ?_ | refine blockQ_ret ?_ | refine blockQ_this ?_ | refine blockQ_other (by decide) ?_ | refine regW_nil ?_ | refine sw_draw mixed ?_ | refine retQ_ret ?_ | refine retQ_normal ?_))
 | (with_reducible refine regD_nil ?_
    refine ⟨by kernel_rfl, ?_⟩)
 | (revert h; (first | ((with_reducible refine idx_elim ?_); intro m hm1 hm2 hm3 h; (try (simp only [Int.reduceToNat] at hm3)); (try (revert hm3; (with_reducible apply same_elim); (focus (with_reducible assumption)); rintro rfl)); (try (simp only [List.length_set, List.length_cons, List.length_nil, List.length_replicate, Nat.reduceAdd, Int.cast_ofNat_Int, Nat.zero_add, List.length_append] at hm2))) | (with_reducible refine sidx_elim ?_; intro m hm1 hm3 h) | (with_reducible refine gd_elim ?_; intro hg h; try (have hg2 := hg.2; have hg := hg.1; (try (simp only [Nat.reduceLeDiff] at hg2)); (try (revert hg2; (with_reducible refine toNat_elim hg ?_); intro hg2 hg4)); try (have hg3 := hg2.2; have hg2 := hg2.1; (try (simp only [Nat.reduceLeDiff] at hg3))))) | (with_reducible refine condt_elim ?_ ?_; (focus (with_reducible assumption)); intro h) | (with_reducible refine condf_elim ?_ ?_; (focus (with_reducible assumption)); intro h)))
 | with_reducible refine sw_seq ?_
 | with_reducible refine seqQ_ret ?_
 | with_reducible refine seqQ_exit ?_
 | ((with_reducible refine wp_ite ?_ ?_)
    all_goals (intro hc; (try (simp only [Bool.not_eq_true, Bool.not_eq_false] at hc)); simp only [hc]))
 | (with_reducible refine rskip (hs := ?_) (h2 := ?_)
    · simp only [lkd, lkb, reduceCtorEq, Nat.reduceEqDiff]; done)
 | (with_reducible refine ryes (hs := ?_) (h := ?_)
    · simp only [lkd, lkb, reduceCtorEq, Nat.reduceEqDiff]; done)
 | (with_reducible refine rno (hs := ?_) (h := ?_)
    · simp only [lkd, lkb, reduceCtorEq, Nat.reduceEqDiff, Bool.not_true, Bool.not_false]; done)
 | (with_reducible apply regW_guardN
    · simp only [dstOk, Nat.reduceLT]
    · rfl
    · simp only [lkd, lkb, reduceCtorEq, Nat.reduceEqDiff]; rfl
    all_goals (intro hc; (try (simp only [Bool.not_true, Bool.not_false] at hc))))
 | (with_reducible apply sw_cond
    · simp only [lkd, lkb, reduceCtorEq, Nat.reduceEqDiff]; rfl
    all_goals (intro hc; try (cases hc; done)))
 | ((first
     | ((with_reducible refine gh_ret ?_)
        revert h
        with_reducible refine some_elim ?_
        rintro rfl)
     | (with_reducible refine here_call ?_
        revert h
        with_reducible refine bind_elim ?_
        intro t ht h
        (first
          | ((first
              | ((with_reducible refine here_call (f := 70) ?_); refine call_dataE (c_impl_verify ht) ?_ rfl ?_)
              | ((with_reducible refine here_call (f := 68) ?_); refine call_dataE (c_spec_Verify ht) ?_ rfl ?_))
             · first | rfl | (simp; done))))
     | (with_reducible (first | refine ropD (h := ?_) | refine ropW (h := ?_))
        intro k hk)
     | skip)
    simp only [bn, lkb, evb, evd, Value.oneCell', setSeg, reduceCtorEq, Nat.reduceAdd, Nat.reduceMul, Nat.reduceSub, Nat.reduceLT, Nat.reduceLeDiff, Nat.reduceEqDiff, Int.reduceNeg, Int.reduceToNat, ty2, ty4, ty23, ty25, ty27, ty28, ty58, ty90, ty92, ty94, ty98, ty102, GFunc.cells, GI2.cells, GI3.cells, GProgram.cells, Gprog.cells, cI, cB, cS, cL, GI2_e, GFunc_e, GProgram_e, Gprog_e, GI3_e, LcIi64_e, buildP, buildSliceP, putParts, structPlaces, chunks, List.replicate, List.flatten_nil, List.flatten_cons, Option.bind_some, nilEqP, ne_eq, not_false_eq_true, not_true_eq_false, *]
    try (refine hk.use _ _ _ _ ?_; clear hk k))
 | fail)
  all_goals (try rfl)
  all_goals (try (simp; done))
  all_goals (try (simp_all; done))
def c_impl_known := @And.left _ _ gr25
def c_spec_l04Right := (@And.right _ _ gr25)
end Go.Proofs.YtdlaplgofgklnaaGreat