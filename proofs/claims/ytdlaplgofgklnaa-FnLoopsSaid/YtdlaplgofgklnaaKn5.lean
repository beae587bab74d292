/- WHAT IS PROVED: an abstract walker over the model, what some functions of the program answer, and laws of these answers, one behind the other. Conditions: none. -/
import Derived.Test.YtdlaplgofgklnaaKn4
namespace Go.Proofs.Ytdlaplgofgklnaa
open Go.Proofs Go.Proofs.Ytdlaplgofgklnaa.L
set_option maxHeartbeats 1000000
set_option linter.unusedSimpArgs false
set_option linter.unusedVariables false
set_option maxRecDepth 100000
def impl_verify.a1 (k : Nat) (a1 : (List GFunc)) (a2 : GI3) : Option ((GI3 × (List (List Int))) ⊕ ((List GFunc) × GI3)) :=
  cond ((decide (((a1.length : Int)) < 1))) (some (.inl ((⟨0, 0, 1⟩ : GI3), []))) (cond ((decide (((a1.length : Int)) > 6))) (some (.inl ((⟨0, 0, 1⟩ : GI3), []))) (some (.inr (a1, a2))))
def impl_verify.a4 (k : Nat) (a1 : (List GFunc)) (a2 : GI3) (a3 : (List (List Int))) (a4 : Int) (a5 : Int) (a6 : (List GI2)) (a7 : Int) (a8 : (List GFunc)) (a9 : Int) (a10 : Int) : Option ((GI3 × (List (List Int))) ⊕ ((List GFunc) × GI3 × (List (List Int)) × Int × Int × (List GI2) × Int × (List GFunc) × Int × Int)) :=
  (impl_in a4 0 4).bind fun t2 => cond ((!t2)) (some (.inl ((⟨a7, 0, 1⟩ : GI3), []))) ((impl_in a5 a4 8).bind fun t3 => cond ((!t3)) (some (.inl ((⟨a7, 0, 1⟩ : GI3), []))) ((impl_in ((a6.length : Int)) 1 60).bind fun t4 => cond ((!t4)) (some (.inl ((⟨a7, 0, 1⟩ : GI3), []))) (some (.inr (a1, a2, a3, a4, a5, a6, a7, a8, a9, a10)))))
def impl_verify.l5 : Nat → (List GFunc) → GI3 → (List (List Int)) → Int → (List GFunc) → Int → Int → (List GI2) → Int → Int → Option ((GI3 × (List (List Int))) ⊕ ((List GFunc) × GI3 × (List (List Int)) × Int × (List GFunc) × Int × Int))
  | 0, _, _, _, _, _, _, _, _, _, _ => none
  | k + 1, a1, a2, a3, a4, a5, a6, a7, a8, a9, a10 => cond ((decide (a10 < a9))) ((idx a8 a10).bind fun m5 => (impl_InsRight k ((⟨a1⟩ : GProgram)) a4 m5).bind fun t6 => cond ((!t6)) (some (.inl ((⟨a4, a10, 1⟩ : GI3), []))) (impl_verify.l5 k a1 a2 a3 a4 a5 a6 a7 a8 a9 ((IntKind.i64.wrap (a10 + 1))))) (some (.inr (a1, a2, a3, a4, a5, a6, a7)))
def impl_verify.a3 (k : Nat) (a1 : (List GFunc)) (a2 : GI3) (a3 : (List (List Int))) (a4 : (List GFunc)) (a5 : Int) (a6 : Int) : Option ((GI3 × (List (List Int))) ⊕ ((List GFunc) × GI3 × (List (List Int)) × (List GFunc) × Int × Int)) :=
  (idx a4 a6).bind fun m1 => (impl_verify.a4 k a1 a2 a3 m1.args m1.locals m1.code a6 a4 a5 a6).bind fun o4 => Sum.elim (fun o4l => some (.inl (o4l.1, o4l.2))) (fun o4r => (impl_verify.l5 k o4r.1 o4r.2.1 o4r.2.2.1 o4r.2.2.2.2.2.2.1 o4r.2.2.2.2.2.2.2.1 o4r.2.2.2.2.2.2.2.2.1 o4r.2.2.2.2.2.2.2.2.2 o4r.2.2.2.2.2.1 ((o4r.2.2.2.2.2.1.length : Int)) 0).bind fun o5 => Sum.elim (fun o5l => some (.inl (o5l.1, o5l.2))) (fun o5r => (impl_heightsOf k ((⟨o5r.1⟩ : GProgram)) o5r.2.2.2.1).bind fun t7 => cond ((t7.2.2 != 0)) (some (.inl ((⟨o5r.2.2.2.1, t7.2.1, t7.2.2⟩ : GI3), []))) (gd ((o5r.2.2.1.length + 1) * 24 ≤ 35184372088832 ∧ o5r.2.2.1.length + 1 ≤ 35184372088832) (some (.inr (o5r.1, o5r.2.1, (o5r.2.2.1 ++ [t7.1]), o5r.2.2.2.2.1, o5r.2.2.2.2.2.1, o5r.2.2.2.2.2.2))))) o5) o4
def impl_verify.l2 : Nat → (List GFunc) → GI3 → (List (List Int)) → (List GFunc) → Int → Int → Option ((GI3 × (List (List Int))) ⊕ (GI3 × (List (List Int))))
  | 0, _, _, _, _, _, _ => none
  | k + 1, a1, a2, a3, a4, a5, a6 => cond ((decide (a6 < a5))) ((impl_verify.a3 k a1 a2 a3 a4 a5 a6).bind fun o3 => Sum.elim (fun o3l => some (.inl (o3l.1, o3l.2))) (fun o3r => impl_verify.l2 k o3r.1 o3r.2.1 o3r.2.2.1 o3r.2.2.2.1 o3r.2.2.2.2.1 ((IntKind.i64.wrap (o3r.2.2.2.2.2 + 1)))) o3) (some (.inr (a2, a3)))
def impl_verify (k : Nat) (p0 : GProgram) : Option (GI3 × (List (List Int))) :=
  (impl_verify.a1 k p0.funcs ((⟨0, 0, 0⟩ : GI3))).bind fun o1 => Sum.elim (fun o1l => some (o1l.1, o1l.2)) (fun o1r => (impl_verify.l2 k o1r.1 o1r.2 [] o1r.1 ((o1r.1.length : Int)) 0).bind fun o2 => Sum.elim (fun o2l => some (o2l.1, o2l.2)) (fun o2r => some ((⟨0, 0, 0⟩ : GI3), o2r.2)) o2) o1
theorem c_impl_verify {k : Nat} {p0 : GProgram} {r : GI3 × (List (List Int))} (h : impl_verify k p0 = some r) : Con Try.prog 93 [.agg [.d (.row .bor 3 (Rw (GFunc.cells .bor) p0.funcs))]] [] (.tup [.agg [V.int r.1.a, V.int r.1.b, V.int r.1.c], .d (.row .own 1 (Rw (cL .own 1 (cI .i64)) r.2))]) [] := by
  refine con_of_sw Try.func93 rfl Try.call93 (by simp [Try.ntmps93]) (by simp [V.inNs, V.inN]) (by simp [C.inN, V.inNss, V.inNs, V.inN, inNss_dd]) (by simp [V.inNs, V.inN]) (by simp [C.inN, V.inNss, V.inNs, V.inN, inNss_dd]) rfl ?_
  rw [Try.ntmps93, Try.results93]
  unfold impl_verify at h
  replace h := Yes.mk h
  simp only [entryS, entryO, Nat.reduceAdd, List.length_nil, List.length_cons]
  repeat' (first
 | (with_reducible (first | refine sw_reg ?_ | refine sw_ret ?_ | refine sw_skip ?_ | refine sw_block ?_ | refine sw_exit ?_ | refine seqQ_normal ?_ | refine blockQ_normal ?_ | refine blockQ_ret ?_ | refine blockQ_this ?_ | refine blockQ_other (by decide) ?_ | refine regW_nil ?_ | refine sw_draw mixed ?_ | refine retQ_ret ?_ | refine retQ_normal ?_))
 | (with_reducible refine regD_nil ?_
    refine ⟨by kernel_rfl, ?_⟩)
 | (revert h; (first | ((with_reducible refine idx_elim ?_); intro m hm1 hm2 hm3 h; (try (simp only [Int.reduceToNat] at hm3)); (try (revert hm3; (with_reducible apply same_elim); (focus (with_reducible assumption)); rintro rfl)); (try (simp only [List.length_set, List.length_cons, List.length_nil, List.length_replicate, Nat.reduceAdd, Int.cast_ofNat_Int, Nat.zero_add, List.length_append] at hm2))) | (with_reducible refine sidx_elim ?_; intro m hm1 hm3 h) | (with_reducible refine gd_elim ?_; intro hg h; try (have hg2 := hg.2; have hg := hg.1; (try (simp only [Nat.reduceLeDiff] at hg2)); (try (revert hg2; (with_reducible refine toNat_elim hg ?_); intro hg2 hg4)); try (have hg3 := hg2.2; have hg2 := hg2.1; (try (simp only [Nat.reduceLeDiff] at hg3))))) | (with_reducible refine condt_elim ?_ ?_; (focus (with_reducible assumption)); intro h) | (with_reducible refine condf_elim ?_ ?_; (focus (with_reducible assumption)); intro h)))
 | ((first | with_reducible refine seqQ_ret (K := (fun st1 n1 => Gh st1 n1 (NextS _ 50000000 _ _ _ _))) ?_ | with_reducible refine seqQ_exit (K := (fun st1 n1 => Gh st1 n1 (NextS _ 50000000 _ _ _ _))) ?_)
    obtain rfl := h.get
    have h := hK5
    (try (simp only [Sum.elim_inl, Sum.elim_inr] at h)))
 | ((first | with_reducible refine seqQ_ret (K := (fun st1 n1 => Gh st1 n1 (MeetA _ 40000000 _ _))) ?_ | with_reducible refine seqQ_exit (K := (fun st1 n1 => Gh st1 n1 (MeetA _ 40000000 _ _))) ?_)
    obtain rfl := h.get
    have h := hK4
    (try (simp only [Sum.elim_inl, Sum.elim_inr] at h)))
 | ((first | with_reducible refine seqQ_ret (K := (fun st1 n1 => Gh st1 n1 (MeetA _ 30000000 _ _))) ?_ | with_reducible refine seqQ_exit (K := (fun st1 n1 => Gh st1 n1 (MeetA _ 30000000 _ _))) ?_)
    obtain rfl := h.get
    have h := hK3
    (try (simp only [Sum.elim_inl, Sum.elim_inr] at h)))
 | ((first | with_reducible refine seqQ_ret (K := (fun st1 n1 => Gh st1 n1 (NextS _ 20000000 _ _ _ _))) ?_ | with_reducible refine seqQ_exit (K := (fun st1 n1 => Gh st1 n1 (NextS _ 20000000 _ _ _ _))) ?_)
    obtain rfl := h.get
    have h := hK2
    (try (simp only [Sum.elim_inl, Sum.elim_inr] at h)))
 | ((first | with_reducible refine seqQ_ret (K := (fun st1 n1 => Gh st1 n1 (MeetA _ 10000000 _ _))) ?_ | with_reducible refine seqQ_exit (K := (fun st1 n1 => Gh st1 n1 (MeetA _ 10000000 _ _))) ?_)
    obtain rfl := h.get
    have h := hK1
    (try (simp only [Sum.elim_inl, Sum.elim_inr] at h)))
 | (with_reducible refine here_loop (c := (.seq (.region 10 _ _) _)) ?_
    skip
    revert h
    with_reducible refine bind_elimY ?_
    intro o5 h hK5
    refine sw_gh ?_
    (try (apply gh_resRow 20000000; (focus (simp only [putSt, lk, lkb, reduceCtorEq, Nat.reduceEqDiff]; try rfl)); (focus (first | (simp only [Rw_length, List.length_set]; omega) | (simp [Rw_length]; omega))); simp only [rxb, Nat.reduceAdd, Nat.reduceLeDiff, resSlotP, nameSlotP, Prog.wp, Prog.wp_bind, Prog.bind, Prog.ofO, putSt, lk, lkb, reduceCtorEq, Nat.reduceEqDiff, resV, resV.go, resV.gol, nameAll, nameP, outP, outT, cntT, V.lin, D.lin, *, mmb, GI2_Dset, GFunc_Dset, GProgram_Dset, GI3_Dset, LcIi64_Dset]))
    refine gh_sw ?_
    refine sw_loop (ι := Nat × (List GFunc) × GI3 × (List (List Int)) × Int × (List GFunc) × Int × Int × (List GI2) × Int × Int) 50000000 (by decide) (fun x : Nat × (List GFunc) × GI3 × (List (List Int)) × Int × (List GFunc) × Int × Int × (List GI2) × Int × Int => [(.s 1, some (.v (.mp 0 1 0 0))), (.s 2, some (.v (.mp 64 3 0 0))), (.s 4, some (.v (.sl 20000000 1 0 x.2.2.2.1.length))), (.s 5, some (.v (V.int x.2.2.2.2.1))), (.s 24, some (.v (.d (.row .bor 3 (Rw (GFunc.cells .bor) x.2.2.2.2.2.1))))), (.s 25, some (.v (V.int x.2.2.2.2.2.2.1))), (.s 26, some (.v (V.int x.2.2.2.2.2.2.2.1))), (.s 53, some (.v (.d (.row .bor 2 (Rw GI2.cells x.2.2.2.2.2.2.2.2.1))))), (.s 54, some (.v (V.int x.2.2.2.2.2.2.2.2.2.1))), (.s 55, some (.v (V.int x.2.2.2.2.2.2.2.2.2.2))), (.r 0, some (.o 1 [[.d (.row .bor 3 (Rw (GFunc.cells .bor) x.2.1))]])), (.r 64, some (.o 3 [[V.int x.2.2.1.a, V.int x.2.2.1.b, V.int x.2.2.1.c]])), (.r 20000000, some (.o 1 (dd (Rw (cL .own 1 (cI .i64)) x.2.2.2.1))))]) (fun x => x.1) (fun x => Yes (impl_verify.l5 x.1 x.2.1 x.2.2.1 x.2.2.2.1 x.2.2.2.2.1 x.2.2.2.2.2.1 x.2.2.2.2.2.2.1 x.2.2.2.2.2.2.2.1 x.2.2.2.2.2.2.2.2.1 x.2.2.2.2.2.2.2.2.2.1 x.2.2.2.2.2.2.2.2.2.2) o5) (_, _, _, _, _, _, _, _, _, _, _) ?_ h ?_ ?_
    · exact (by simp [slNL, C.inN, V.inN, V.inNs, V.inNss, inNss_dd, inNs_map_d])
    · simp only [SubL, putSt, lk, lkb, reduceCtorEq, Nat.reduceEqDiff, List.length_set, List.length_replicate]; repeat' (first | apply And.intro | rfl | trivial | (simp only [*]; done))
    rintro ⟨_ | k, a1, a2, a3, a4, a5, a6, a7, a8, a9, a10⟩ h
    · simp only [impl_verify.l5] at h; exact h.none
    simp only [impl_verify.l5] at h
)
 | (with_reducible refine here_next (N0 := 50000000) ?_
    skip
    (try (apply gh_resRow 20000000; (focus (simp only [putSt, lk, lkb, reduceCtorEq, Nat.reduceEqDiff]; try rfl)); (focus (first | (simp only [Rw_length, List.length_set]; omega) | (simp [Rw_length]; omega))); simp only [rxb, Nat.reduceAdd, Nat.reduceLeDiff, resSlotP, nameSlotP, Prog.wp, Prog.wp_bind, Prog.bind, Prog.ofO, putSt, lk, lkb, reduceCtorEq, Nat.reduceEqDiff, resV, resV.go, resV.gol, nameAll, nameP, outP, outT, cntT, V.lin, D.lin, *, mmb, GI2_Dset, GFunc_Dset, GProgram_Dset, GI3_Dset, LcIi64_Dset]))
    refine nexts_to (_, _, _, _, _, _, _, _, _, _, _) (by decide) ?_ (Nat.lt_succ_self _) h ?_
    · exact (by simp [slNL, C.inN, V.inN, V.inNs, V.inNss, inNss_dd, inNs_map_d])
    · simp only [SubL, putSt, lk, lkb, reduceCtorEq, Nat.reduceEqDiff, List.length_set, List.length_replicate]; repeat' (first | apply And.intro | rfl | trivial | (simp only [*]; done)))
 | (with_reducible refine here_join (a := (.seq (.region 7 _ _) _)) (b := (.seq (.seq (.region 9 _ _) _) _)) ?_
    skip
    revert h
    with_reducible refine bind_elimY ?_
    intro o4 h hK4
    unfold impl_verify.a4 at h
    refine sw_join (ι := (List GFunc) × GI3 × (List (List Int)) × Int × Int × (List GI2) × Int × (List GFunc) × Int × Int) 40000000 (fun x : (List GFunc) × GI3 × (List (List Int)) × Int × Int × (List GI2) × Int × (List GFunc) × Int × Int => [(.s 1, some (.v (.mp 0 1 0 0))), (.s 2, some (.v (.mp 64 3 0 0))), (.s 4, some (.v (.sl 20000000 1 0 x.2.2.1.length))), (.s 5, some (.v (V.int x.2.2.2.2.2.2.1))), (.s 6, some (.v (.mp 20000320 3 0 0))), (.s 24, some (.v (.d (.row .bor 3 (Rw (GFunc.cells .bor) x.2.2.2.2.2.2.2.1))))), (.s 25, some (.v (V.int x.2.2.2.2.2.2.2.2.1))), (.s 26, some (.v (V.int x.2.2.2.2.2.2.2.2.2))), (.r 0, some (.o 1 [[.d (.row .bor 3 (Rw (GFunc.cells .bor) x.1))]])), (.r 64, some (.o 3 [[V.int x.2.1.a, V.int x.2.1.b, V.int x.2.1.c]])), (.r 20000000, some (.o 1 (dd (Rw (cL .own 1 (cI .i64)) x.2.2.1)))), (.r 20000320, some (.o 3 [[V.int x.2.2.2.1, V.int x.2.2.2.2.1, .d (.row .bor 2 (Rw GI2.cells x.2.2.2.2.2.1))]]))]) (fun x => Yes (some (.inr x)) o4) ?_ ?_
    rotate_left
    rintro ⟨b1, b2, b3, b4, b5, b6, b7, b8, b9, b10⟩ h
    obtain rfl := h.get
    have h := hK4
    (try (simp only [Sum.elim_inl, Sum.elim_inr] at h))
    refine sw_gh ?_
    refine gh_sw ?_
    skip)
 | (with_reducible refine here_meet (N0 := 40000000) ?_
    skip
    (try (apply gh_resRow 20000000; (focus (simp only [putSt, lk, lkb, reduceCtorEq, Nat.reduceEqDiff]; try rfl)); (focus (first | (simp only [Rw_length, List.length_set]; omega) | (simp [Rw_length]; omega))); simp only [rxb, Nat.reduceAdd, Nat.reduceLeDiff, resSlotP, nameSlotP, Prog.wp, Prog.wp_bind, Prog.bind, Prog.ofO, putSt, lk, lkb, reduceCtorEq, Nat.reduceEqDiff, resV, resV.go, resV.gol, nameAll, nameP, outP, outT, cntT, V.lin, D.lin, *, mmb, GI2_Dset, GFunc_Dset, GProgram_Dset, GI3_Dset, LcIi64_Dset]))
    refine meet_to (_, _, _, _, _, _, _, _, _, _) (by decide) ?_ h ?_
    · exact (by simp [slNL, C.inN, V.inN, V.inNs, V.inNss, inNss_dd, inNs_map_d])
    · simp only [SubL, putSt, lk, lkb, reduceCtorEq, Nat.reduceEqDiff, List.length_set, List.length_replicate]; repeat' (first | apply And.intro | rfl | trivial | (simp only [*]; done)))
 | (with_reducible refine here_join (a := (.block 1 _)) (b := (.region 19 _ _)) ?_
    skip
    revert h
    with_reducible refine bind_elimY ?_
    intro o3 h hK3
    unfold impl_verify.a3 at h
    refine sw_join (ι := (List GFunc) × GI3 × (List (List Int)) × (List GFunc) × Int × Int) 30000000 (fun x : (List GFunc) × GI3 × (List (List Int)) × (List GFunc) × Int × Int => [(.s 1, some (.v (.mp 0 1 0 0))), (.s 2, some (.v (.mp 64 3 0 0))), (.s 4, some (.v (.d (.row .own 1 (Rw (cL .own 1 (cI .i64)) x.2.2.1))))), (.s 24, some (.v (.d (.row .bor 3 (Rw (GFunc.cells .bor) x.2.2.2.1))))), (.s 25, some (.v (V.int x.2.2.2.2.1))), (.s 26, some (.v (V.int x.2.2.2.2.2))), (.r 0, some (.o 1 [[.d (.row .bor 3 (Rw (GFunc.cells .bor) x.1))]])), (.r 64, some (.o 3 [[V.int x.2.1.a, V.int x.2.1.b, V.int x.2.1.c]]))]) (fun x => Yes (some (.inr x)) o3) ?_ ?_
    rotate_left
    rintro ⟨b1, b2, b3, b4, b5, b6⟩ h
    obtain rfl := h.get
    have h := hK3
    (try (simp only [Sum.elim_inl, Sum.elim_inr] at h))
    refine sw_gh ?_
    refine gh_nameSlot 4 ?_
    simp only [rxb, Nat.reduceAdd, Nat.reduceLeDiff, resSlotP, nameSlotP, Prog.wp, Prog.wp_bind, Prog.bind, Prog.ofO, putSt, lk, lkb, reduceCtorEq, Nat.reduceEqDiff, resV, resV.go, resV.gol, nameAll, nameP, outP, outT, cntT, V.lin, D.lin, Nat.reduceAdd]
    refine gh_sw ?_
    skip)
 | (with_reducible refine here_meet (N0 := 30000000) ?_
    skip
    refine gh_resSlot 4 ?_
    simp only [rxb, Nat.reduceAdd, Nat.reduceLeDiff, resSlotP, nameSlotP, Prog.wp, Prog.wp_bind, Prog.bind, Prog.ofO, putSt, lk, lkb, reduceCtorEq, Nat.reduceEqDiff, resV, resV.go, resV.gol, nameAll, nameP, outP, outT, cntT, V.lin, D.lin, *]
    refine meet_to (_, _, _, _, _, _) (by decide) ?_ h ?_
    · exact (by simp [slNL, C.inN, V.inN, V.inNs, V.inNss, inNss_dd, inNs_map_d])
    · simp only [SubL, putSt, lk, lkb, reduceCtorEq, Nat.reduceEqDiff, List.length_set, List.length_replicate]; repeat' (first | apply And.intro | rfl | trivial | (simp only [*]; done)))
 | (with_reducible refine here_loop (c := (.seq (.region 5 _ _) _)) ?_
    skip
    revert h
    with_reducible refine bind_elimY ?_
    intro o2 h hK2
    refine sw_gh ?_
    (try (refine gh_nilRow 4 .own 1 ?_ ?_; (focus (simp only [putSt, lk, lkb, reduceCtorEq, Nat.reduceEqDiff]; done))))
    refine gh_resSlot 4 ?_
    simp only [rxb, Nat.reduceAdd, Nat.reduceLeDiff, resSlotP, nameSlotP, Prog.wp, Prog.wp_bind, Prog.bind, Prog.ofO, putSt, lk, lkb, reduceCtorEq, Nat.reduceEqDiff, resV, resV.go, resV.gol, nameAll, nameP, outP, outT, cntT, V.lin, D.lin, *]
    refine gh_sw ?_
    refine sw_loop (ι := Nat × (List GFunc) × GI3 × (List (List Int)) × (List GFunc) × Int × Int) 20000000 (by decide) (fun x : Nat × (List GFunc) × GI3 × (List (List Int)) × (List GFunc) × Int × Int => [(.s 1, some (.v (.mp 0 1 0 0))), (.s 2, some (.v (.mp 64 3 0 0))), (.s 4, some (.v (.d (.row .own 1 (Rw (cL .own 1 (cI .i64)) x.2.2.2.1))))), (.s 24, some (.v (.d (.row .bor 3 (Rw (GFunc.cells .bor) x.2.2.2.2.1))))), (.s 25, some (.v (V.int x.2.2.2.2.2.1))), (.s 26, some (.v (V.int x.2.2.2.2.2.2))), (.r 0, some (.o 1 [[.d (.row .bor 3 (Rw (GFunc.cells .bor) x.2.1))]])), (.r 64, some (.o 3 [[V.int x.2.2.1.a, V.int x.2.2.1.b, V.int x.2.2.1.c]]))]) (fun x => x.1) (fun x => Yes (impl_verify.l2 x.1 x.2.1 x.2.2.1 x.2.2.2.1 x.2.2.2.2.1 x.2.2.2.2.2.1 x.2.2.2.2.2.2) o2) (_, _, _, _, _, _, _) ?_ h ?_ ?_
    · exact (by simp [slNL, C.inN, V.inN, V.inNs, V.inNss, inNss_dd, inNs_map_d])
    · simp only [SubL, putSt, lk, lkb, reduceCtorEq, Nat.reduceEqDiff, List.length_set, List.length_replicate]; repeat' (first | apply And.intro | rfl | trivial | (simp only [*]; done))
    rintro ⟨_ | k, a1, a2, a3, a4, a5, a6⟩ h
    · simp only [impl_verify.l2] at h; exact h.none
    simp only [impl_verify.l2] at h
    refine sw_gh ?_
    refine gh_nameSlot 4 ?_
    simp only [rxb, Nat.reduceAdd, Nat.reduceLeDiff, resSlotP, nameSlotP, Prog.wp, Prog.wp_bind, Prog.bind, Prog.ofO, putSt, lk, lkb, reduceCtorEq, Nat.reduceEqDiff, resV, resV.go, resV.gol, nameAll, nameP, outP, outT, cntT, V.lin, D.lin, Nat.reduceAdd]
    refine gh_sw ?_
)
 | (with_reducible refine here_next (N0 := 20000000) ?_
    skip
    (try (refine gh_nilRow 4 .own 1 ?_ ?_; (focus (simp only [putSt, lk, lkb, reduceCtorEq, Nat.reduceEqDiff]; done))))
    refine gh_resSlot 4 ?_
    simp only [rxb, Nat.reduceAdd, Nat.reduceLeDiff, resSlotP, nameSlotP, Prog.wp, Prog.wp_bind, Prog.bind, Prog.ofO, putSt, lk, lkb, reduceCtorEq, Nat.reduceEqDiff, resV, resV.go, resV.gol, nameAll, nameP, outP, outT, cntT, V.lin, D.lin, *]
    refine nexts_to (_, _, _, _, _, _, _) (by decide) ?_ (Nat.lt_succ_self _) h ?_
    · exact (by simp [slNL, C.inN, V.inN, V.inNs, V.inNss, inNss_dd, inNs_map_d])
    · simp only [SubL, putSt, lk, lkb, reduceCtorEq, Nat.reduceEqDiff, List.length_set, List.length_replicate]; repeat' (first | apply And.intro | rfl | trivial | (simp only [*]; done)))
 | (with_reducible refine here_join (a := (.seq (.region 1 _ _) _)) (b := (.seq (.region 3 _ _) _)) ?_
    skip
    revert h
    with_reducible refine bind_elimY ?_
    intro o1 h hK1
    unfold impl_verify.a1 at h
    refine sw_join (ι := (List GFunc) × GI3) 10000000 (fun x : (List GFunc) × GI3 => [(.s 1, some (.v (.mp 0 1 0 0))), (.s 2, some (.v (.mp 64 3 0 0))), (.r 0, some (.o 1 [[.d (.row .bor 3 (Rw (GFunc.cells .bor) x.1))]])), (.r 64, some (.o 3 [[V.int x.2.a, V.int x.2.b, V.int x.2.c]]))]) (fun x => Yes (some (.inr x)) o1) ?_ ?_
    rotate_left
    rintro ⟨b1, b2⟩ h
    obtain rfl := h.get
    have h := hK1
    (try (simp only [Sum.elim_inl, Sum.elim_inr] at h))
    refine sw_gh ?_
    refine gh_sw ?_
    skip)
 | (with_reducible refine here_meet (N0 := 10000000) ?_
    skip
    refine meet_to (_, _) (by decide) ?_ h ?_
    · exact (by simp [slNL, C.inN, V.inN, V.inNs, V.inNss, inNss_dd, inNs_map_d])
    · simp only [SubL, putSt, lk, lkb, reduceCtorEq, Nat.reduceEqDiff, List.length_set, List.length_replicate]; repeat' (first | apply And.intro | rfl | trivial | (simp only [*]; done)))
 | with_reducible refine sw_seq ?_
 | with_reducible refine seqQ_ret ?_
 | with_reducible refine seqQ_exit ?_
 | (with_reducible refine gh_nilRow 3 .own 1 ?_ ?_
    · simp only [putSt, lk, lkb, reduceCtorEq, Nat.reduceEqDiff]; done
    skip)
 | ((with_reducible refine wp_ite ?_ ?_)
    all_goals (intro hc; (try (simp only [Bool.not_eq_true, Bool.not_eq_false] at hc)); simp only [hc]))
 | (with_reducible apply regW_skip
    · simp only [dstOk, Nat.reduceLT]
    · rfl
    · simp only [putSt, lk, lkb, reduceCtorEq, Nat.reduceEqDiff]; done)
 | (with_reducible apply regW_yesN
    · simp only [dstOk, Nat.reduceLT]
    · rfl
    · simp only [putSt, lk, lkb, reduceCtorEq, Nat.reduceEqDiff]; done)
 | (with_reducible apply regW_no
    · simp only [dstOk, Nat.reduceLT]
    · rfl
    · simp only [putSt, lk, lkb, reduceCtorEq, Nat.reduceEqDiff, Bool.not_true, Bool.not_false]; done)
 | (with_reducible apply regW_guardN
    · simp only [dstOk, Nat.reduceLT]
    · rfl
    · simp only [putSt, lk, lkb, reduceCtorEq, Nat.reduceEqDiff]; rfl
    all_goals (intro hc; (try (simp only [Bool.not_true, Bool.not_false] at hc))))
 | (with_reducible apply sw_cond
    · simp only [putSt, lk, lkb, reduceCtorEq, Nat.reduceEqDiff]; rfl
    all_goals (intro hc; try (cases hc; done)))
 | ((first
     | ((with_reducible refine gh_ret ?_)
        revert h
        with_reducible refine some_elim ?_
        rintro rfl)
     | (with_reducible refine here_call ?_
        revert h
        with_reducible refine bind_elim ?_
        intro t ht h
        (first
          | (refine call_dataE (c_impl_in ht) ?_ rfl ?_
             · first | rfl | (simp; done))
          | (refine call_dataE (c_impl_InsRight ht) ?_ rfl ?_
             · first | rfl | (simp; done))
          | (refine call_dataE (c_impl_heightsOf ht) ?_ rfl ?_
             · first | rfl | (simp; done))))
     | (with_reducible apply regD_opK
        · simp only [dstOk, Nat.reduceLT]
        · simp only [Nat.reduceAdd]; rfl
        intro k hk)
     | (with_reducible apply regW_opK
        · simp only [dstOk, Nat.reduceLT]
        · simp only [Nat.reduceAdd]; rfl
        intro k hk)
     | skip)
    simp only [RetW, bn, lkb, evb, opC, opP, fetchN, fetchP, fetchAll, fetchO, Prog.bind, Prog.wp, Prog.wp_bind, lk, nameP, nameAll, Value.oneCell', putSt, stepP, putP, reduceCtorEq, V.lin, V.linL, D.lin, isNil, binP, unP, BinOp.isShift, Prog.ofO, Nat.reduceAdd, Nat.reduceMul, Nat.reduceSub, Nat.reduceLT, Nat.reduceLeDiff, Nat.reduceEqDiff, ite_true, ite_false, fieldAddrP, fieldP, indexAddrP, loadP, storeP, boxP, allocP, cellsP, asVal, setSeg, outP, outT, cntT, TyK.field, TyK.agg, zeroRow, V.ren, V.renL, forall_eq_or_imp, forall_const, minmaxP, lenP, lenOf, lenStr, V.asInt, decide_true, decide_false, sliceP, boundP, makeSliceP, convertP, appendP, rowsOfP, ontoP, sizeFits, V.rowSize, TyK.src, resV, resV.go, resV.gol, retP, retOne, retAll, resTo, objsAre, Option.map_eq_map, Function.const_apply, Int.reduceNeg, Int.reduceToNat, ty2, ty3, ty4, ty26, ty28, ty30, ty53, ty63, ty65, ty77, ty107, GFunc.cells, GI2.cells, GI3.cells, GProgram.cells, cI, cB, cS, cL, GI2_e, GFunc_e, GProgram_e, GI3_e, LcIi64_e, buildP, buildSliceP, putParts, structPlaces, chunks, List.replicate, List.flatten_nil, List.flatten_cons, Option.bind_some, bb, GI2_b, GFunc_b, GProgram_b, GI3_b, LcIi64_b, nilEqP, ne_eq, not_false_eq_true, not_true_eq_false, *]
    try (refine hk.use _ _ _ _ ?_; clear hk k))
 | fail)
  all_goals (try rfl)
  all_goals (try (simp; done))
  all_goals (try (simp_all; done))
def impl_known (k : Nat) (p0 : GProgram) : Option (Gprog × Bool) :=
  (impl_verify k p0).bind fun t1 => some ((⟨p0, t1.2⟩ : Gprog), (t1.1.c == 0))
theorem c_impl_known {k : Nat} {p0 : GProgram} {r : Gprog × Bool} (h : impl_known k p0 = some r) : Con Try.prog 69 [.agg [.d (.row .bor 3 (Rw (GFunc.cells .bor) p0.funcs))]] [] (.tup [.d (.ptr .own [.row .bor 3 (Rw (GFunc.cells .bor) r.1.program.funcs), .row .own 1 (Rw (cL .own 1 (cI .i64)) r.1.h)]), V.bool r.2]) [] := by
  refine con_of_sw Try.func69 rfl Try.call69 (by simp [Try.ntmps69]) (by simp [V.inNs, V.inN]) (by simp [C.inN, V.inNss, V.inNs, V.inN, inNss_dd]) (by simp [V.inNs, V.inN]) (by simp [C.inN, V.inNss, V.inNs, V.inN, inNss_dd]) rfl ?_
  rw [Try.ntmps69, Try.results69]
  unfold impl_known at h
  replace h := Yes.mk h
  simp only [entryS, entryO, Nat.reduceAdd, List.length_nil, List.length_cons]
  repeat' (first
 | (with_reducible (first | refine sw_reg ?_ | refine sw_ret ?_ | refine sw_skip ?_ | refine sw_block ?_ | refine sw_exit ?_ | refine seqQ_normal ?_ | refine blockQ_normal ?_ | refine blockQ_ret ?_ | refine blockQ_this ?_ | refine blockQ_other (by decide) ?_ | refine regW_nil ?_ | refine sw_draw mixed ?_ | refine retQ_ret ?_ | refine retQ_normal ?_))
 | (with_reducible refine regD_nil ?_
    refine ⟨by kernel_rfl, ?_⟩)
 | (revert h; (first | ((with_reducible refine idx_elim ?_); intro m hm1 hm2 hm3 h; (try (simp only [Int.reduceToNat] at hm3)); (try (revert hm3; (with_reducible apply same_elim); (focus (with_reducible assumption)); rintro rfl)); (try (simp only [List.length_set, List.length_cons, List.length_nil, List.length_replicate, Nat.reduceAdd, Int.cast_ofNat_Int, Nat.zero_add, List.length_append] at hm2))) | (with_reducible refine sidx_elim ?_; intro m hm1 hm3 h) | (with_reducible refine gd_elim ?_; intro hg h; try (have hg2 := hg.2; have hg := hg.1; (try (simp only [Nat.reduceLeDiff] at hg2)); (try (revert hg2; (with_reducible refine toNat_elim hg ?_); intro hg2 hg4)); try (have hg3 := hg2.2; have hg2 := hg2.1; (try (simp only [Nat.reduceLeDiff] at hg3))))) | (with_reducible refine condt_elim ?_ ?_; (focus (with_reducible assumption)); intro h) | (with_reducible refine condf_elim ?_ ?_; (focus (with_reducible assumption)); intro h)))
 | with_reducible refine sw_seq ?_
 | with_reducible refine seqQ_ret ?_
 | with_reducible refine seqQ_exit ?_
 | ((with_reducible refine wp_ite ?_ ?_)
    all_goals (intro hc; (try (simp only [Bool.not_eq_true, Bool.not_eq_false] at hc)); simp only [hc]))
 | (with_reducible apply regW_skip
    · simp only [dstOk, Nat.reduceLT]
    · rfl
    · simp only [putSt, lk, lkb, reduceCtorEq, Nat.reduceEqDiff]; done)
 | (with_reducible apply regW_yesN
    · simp only [dstOk, Nat.reduceLT]
    · rfl
    · simp only [putSt, lk, lkb, reduceCtorEq, Nat.reduceEqDiff]; done)
 | (with_reducible apply regW_no
    · simp only [dstOk, Nat.reduceLT]
    · rfl
    · simp only [putSt, lk, lkb, reduceCtorEq, Nat.reduceEqDiff, Bool.not_true, Bool.not_false]; done)
 | (with_reducible apply regW_guardN
    · simp only [dstOk, Nat.reduceLT]
    · rfl
    · simp only [putSt, lk, lkb, reduceCtorEq, Nat.reduceEqDiff]; rfl
    all_goals (intro hc; (try (simp only [Bool.not_true, Bool.not_false] at hc))))
 | (with_reducible apply sw_cond
    · simp only [putSt, lk, lkb, reduceCtorEq, Nat.reduceEqDiff]; rfl
    all_goals (intro hc; try (cases hc; done)))
 | ((first
     | ((with_reducible refine gh_ret ?_)
        revert h
        with_reducible refine some_elim ?_
        rintro rfl)
     | (with_reducible refine here_call ?_
        revert h
        with_reducible refine bind_elim ?_
        intro t ht h
        (first
          | (refine call_dataE (c_impl_verify ht) ?_ rfl ?_
             · first | rfl | (simp; done))))
     | (with_reducible apply regD_opK
        · simp only [dstOk, Nat.reduceLT]
        · simp only [Nat.reduceAdd]; rfl
        intro k hk)
     | (with_reducible apply regW_opK
        · simp only [dstOk, Nat.reduceLT]
        · simp only [Nat.reduceAdd]; rfl
        intro k hk)
     | skip)
    simp only [RetW, bn, lkb, evb, opC, opP, fetchN, fetchP, fetchAll, fetchO, Prog.bind, Prog.wp, Prog.wp_bind, lk, nameP, nameAll, Value.oneCell', putSt, stepP, putP, reduceCtorEq, V.lin, V.linL, D.lin, isNil, binP, unP, BinOp.isShift, Prog.ofO, Nat.reduceAdd, Nat.reduceMul, Nat.reduceSub, Nat.reduceLT, Nat.reduceLeDiff, Nat.reduceEqDiff, ite_true, ite_false, fieldAddrP, fieldP, indexAddrP, loadP, storeP, boxP, allocP, cellsP, asVal, setSeg, outP, outT, cntT, TyK.field, TyK.agg, zeroRow, V.ren, V.renL, forall_eq_or_imp, forall_const, minmaxP, lenP, lenOf, lenStr, V.asInt, decide_true, decide_false, sliceP, boundP, makeSliceP, convertP, appendP, rowsOfP, ontoP, sizeFits, V.rowSize, TyK.src, resV, resV.go, resV.gol, retP, retOne, retAll, resTo, objsAre, Option.map_eq_map, Function.const_apply, Int.reduceNeg, Int.reduceToNat, ty2, ty4, ty26, ty28, ty30, ty53, ty63, ty65, ty68, ty77, ty107, ty122, GFunc.cells, GI2.cells, GI3.cells, GProgram.cells, Gprog.cells, cI, cB, cS, cL, GI2_e, GFunc_e, GProgram_e, Gprog_e, GI3_e, LcIi64_e, buildP, buildSliceP, putParts, structPlaces, chunks, List.replicate, List.flatten_nil, List.flatten_cons, Option.bind_some, nilEqP, ne_eq, not_false_eq_true, not_true_eq_false, *]
    try (refine hk.use _ _ _ _ ?_; clear hk k))
 | fail)
  all_goals (try rfl)
  all_goals (try (simp; done))
  all_goals (try (simp_all; done))
def impl_knownFunc (k : Nat) (p0 : GProgram) (p1 : Int) : Option (Gprog × Bool) :=
  (impl_known k p0).bind fun t1 => cond t1.2 ((impl_hasFunc p0 p1).bind fun t2 => some (t1.1, t2)) (some (t1.1, false))
theorem c_impl_knownFunc {k : Nat} {p0 : GProgram} {p1 : Int} {r : Gprog × Bool} (h : impl_knownFunc k p0 p1 = some r) : Con Try.prog 39 [.agg [.d (.row .bor 3 (Rw (GFunc.cells .bor) p0.funcs))], V.int p1] [] (.tup [.d (.ptr .own [.row .bor 3 (Rw (GFunc.cells .bor) r.1.program.funcs), .row .own 1 (Rw (cL .own 1 (cI .i64)) r.1.h)]), V.bool r.2]) [] := by
  refine con_of_sw Try.func39 rfl Try.call39 (by simp [Try.ntmps39]) (by simp [V.inNs, V.inN]) (by simp [C.inN, V.inNss, V.inNs, V.inN, inNss_dd]) (by simp [V.inNs, V.inN]) (by simp [C.inN, V.inNss, V.inNs, V.inN, inNss_dd]) rfl ?_
  rw [Try.ntmps39, Try.results39]
  unfold impl_knownFunc at h
  replace h := Yes.mk h
  simp only [entryS, entryO, Nat.reduceAdd, List.length_nil, List.length_cons]
  repeat' (first
 | (with_reducible (first | refine sw_reg ?_ | refine sw_ret ?_ | refine sw_skip ?_ | refine sw_block ?_ | refine sw_exit ?_ | refine seqQ_normal ?_ | refine blockQ_normal ?_ | refine blockQ_ret ?_ | refine blockQ_this ?_ | refine blockQ_other (by decide) ?_ | refine regW_nil ?_ | refine sw_draw mixed ?_ | refine retQ_ret ?_ | refine retQ_normal ?_))
 | (with_reducible refine regD_nil ?_
    refine ⟨by kernel_rfl, ?_⟩)
 | (revert h; (first | ((with_reducible refine idx_elim ?_); intro m hm1 hm2 hm3 h; (try (simp only [Int.reduceToNat] at hm3)); (try (revert hm3; (with_reducible apply same_elim); (focus (with_reducible assumption)); rintro rfl)); (try (simp only [List.length_set, List.length_cons, List.length_nil, List.length_replicate, Nat.reduceAdd, Int.cast_ofNat_Int, Nat.zero_add, List.length_append] at hm2))) | (with_reducible refine sidx_elim ?_; intro m hm1 hm3 h) | (with_reducible refine gd_elim ?_; intro hg h; try (have hg2 := hg.2; have hg := hg.1; (try (simp only [Nat.reduceLeDiff] at hg2)); (try (revert hg2; (with_reducible refine toNat_elim hg ?_); intro hg2 hg4)); try (have hg3 := hg2.2; have hg2 := hg2.1; (try (simp only [Nat.reduceLeDiff] at hg3))))) | (with_reducible refine condt_elim ?_ ?_; (focus (with_reducible assumption)); intro h) | (with_reducible refine condf_elim ?_ ?_; (focus (with_reducible assumption)); intro h)))
 | with_reducible refine sw_seq ?_
 | with_reducible refine seqQ_ret ?_
 | with_reducible refine seqQ_exit ?_
 | ((with_reducible refine wp_ite ?_ ?_)
    all_goals (intro hc; (try (simp only [Bool.not_eq_true, Bool.not_eq_false] at hc)); simp only [hc]))
 | (with_reducible apply regW_skip
    · simp only [dstOk, Nat.reduceLT]
    · rfl
    · simp only [putSt, lk, lkb, reduceCtorEq, Nat.reduceEqDiff]; done)
 | (with_reducible apply regW_yesN
    · simp only [dstOk, Nat.reduceLT]
    · rfl
    · simp only [putSt, lk, lkb, reduceCtorEq, Nat.reduceEqDiff]; done)
 | (with_reducible apply regW_no
    · simp only [dstOk, Nat.reduceLT]
    · rfl
    · simp only [putSt, lk, lkb, reduceCtorEq, Nat.reduceEqDiff, Bool.not_true, Bool.not_false]; done)
 | (with_reducible apply regW_guardN
    · simp only [dstOk, Nat.reduceLT]
    · rfl
    · simp only [putSt, lk, lkb, reduceCtorEq, Nat.reduceEqDiff]; rfl
    all_goals (intro hc; (try (simp only [Bool.not_true, Bool.not_false] at hc))))
 | (with_reducible apply sw_cond
    · simp only [putSt, lk, lkb, reduceCtorEq, Nat.reduceEqDiff]; rfl
    all_goals (intro hc; try (cases hc; done)))
 | ((first
     | ((with_reducible refine gh_ret ?_)
        revert h
        with_reducible refine some_elim ?_
        rintro rfl)
     | (with_reducible refine here_call ?_
        revert h
        with_reducible refine bind_elim ?_
        intro t ht h
        (first
          | (refine call_dataE (c_impl_known ht) ?_ rfl ?_
             · first | rfl | (simp; done))
          | (refine call_dataE (c_impl_hasFunc ht) ?_ rfl ?_
             · first | rfl | (simp; done))))
     | (with_reducible apply regD_opK
        · simp only [dstOk, Nat.reduceLT]
        · simp only [Nat.reduceAdd]; rfl
        intro k hk)
     | (with_reducible apply regW_opK
        · simp only [dstOk, Nat.reduceLT]
        · simp only [Nat.reduceAdd]; rfl
        intro k hk)
     | skip)
    simp only [RetW, bn, lkb, evb, opC, opP, fetchN, fetchP, fetchAll, fetchO, Prog.bind, Prog.wp, Prog.wp_bind, lk, nameP, nameAll, Value.oneCell', putSt, stepP, putP, reduceCtorEq, V.lin, V.linL, D.lin, isNil, binP, unP, BinOp.isShift, Prog.ofO, Nat.reduceAdd, Nat.reduceMul, Nat.reduceSub, Nat.reduceLT, Nat.reduceLeDiff, Nat.reduceEqDiff, ite_true, ite_false, fieldAddrP, fieldP, indexAddrP, loadP, storeP, boxP, allocP, cellsP, asVal, setSeg, outP, outT, cntT, TyK.field, TyK.agg, zeroRow, V.ren, V.renL, forall_eq_or_imp, forall_const, minmaxP, lenP, lenOf, lenStr, V.asInt, decide_true, decide_false, sliceP, boundP, makeSliceP, convertP, appendP, rowsOfP, ontoP, sizeFits, V.rowSize, TyK.src, resV, resV.go, resV.gol, retP, retOne, retAll, resTo, objsAre, Option.map_eq_map, Function.const_apply, Int.reduceNeg, Int.reduceToNat, ty2, ty4, ty26, ty28, ty30, ty53, ty63, ty65, ty68, ty107, ty122, GFunc.cells, GI2.cells, GProgram.cells, Gprog.cells, cI, cB, cS, cL, GI2_e, GFunc_e, GProgram_e, Gprog_e, LcIi64_e, nilEqP, ne_eq, not_false_eq_true, not_true_eq_false, *]
    try (refine hk.use _ _ _ _ ?_; clear hk k))
 | fail)
  all_goals (try rfl)
  all_goals (try (simp; done))
  all_goals (try (simp_all; done))
def impl_prog_code (p0 : Gprog) (p1 : Int) : Option ((List GI2)) :=
  (idx p0.program.funcs p1).bind fun m1 => some m1.code
theorem c_impl_prog_code {p0 : Gprog} {p1 : Int} {r : (List GI2)} (h : impl_prog_code p0 p1 = some r) : Con Try.prog 50 [.d (.ptr .bor [.row .bor 3 (Rw (GFunc.cells .bor) p0.program.funcs), .row .bor 1 (Rw (cL .bor 1 (cI .i64)) p0.h)]), V.int p1] [] (.d (.row .bor 2 (Rw GI2.cells r))) [] := by
  refine con_of_sw Try.func50 rfl Try.call50 (by simp [Try.ntmps50]) (by simp [V.inNs, V.inN]) (by simp [C.inN, V.inNss, V.inNs, V.inN, inNss_dd]) (by simp [V.inNs, V.inN]) (by simp [C.inN, V.inNss, V.inNs, V.inN, inNss_dd]) rfl ?_
  rw [Try.ntmps50, Try.results50]
  unfold impl_prog_code at h
  replace h := Yes.mk h
  simp only [entryS, entryO, Nat.reduceAdd, List.length_nil, List.length_cons]
  repeat' (first
 | (with_reducible (first | refine sw_reg ?_ | refine sw_ret ?_ | refine sw_skip ?_ | refine sw_block ?_ | refine sw_exit ?_ | refine seqQ_normal ?_ | refine blockQ_normal ?_ | refine blockQ_ret ?_ | refine blockQ_this ?_ | refine blockQ_other (by decide) ?_ | refine regW_nil ?_ | refine sw_draw mixed ?_ | refine retQ_ret ?_ | refine retQ_normal ?_))
 | (with_reducible refine regD_nil ?_
    refine ⟨by kernel_rfl, ?_⟩)
 | (revert h; (first | ((with_reducible refine idx_elim ?_); intro m hm1 hm2 hm3 h; (try (simp only [Int.reduceToNat] at hm3)); (try (revert hm3; (with_reducible apply same_elim); (focus (with_reducible assumption)); rintro rfl)); (try (simp only [List.length_set, List.length_cons, List.length_nil, List.length_replicate, Nat.reduceAdd, Int.cast_ofNat_Int, Nat.zero_add, List.length_append] at hm2))) | (with_reducible refine sidx_elim ?_; intro m hm1 hm3 h) | (with_reducible refine gd_elim ?_; intro hg h; try (have hg2 := hg.2; have hg := hg.1; (try (simp only [Nat.reduceLeDiff] at hg2)); (try (revert hg2; (with_reducible refine toNat_elim hg ?_); intro hg2 hg4)); try (have hg3 := hg2.2; have hg2 := hg2.1; (try (simp only [Nat.reduceLeDiff] at hg3))))) | (with_reducible refine condt_elim ?_ ?_; (focus (with_reducible assumption)); intro h) | (with_reducible refine condf_elim ?_ ?_; (focus (with_reducible assumption)); intro h)))
 | with_reducible refine sw_seq ?_
 | with_reducible refine seqQ_ret ?_
 | with_reducible refine seqQ_exit ?_
 | (with_reducible refine gh_nilRow 4 .own 2 ?_ ?_
    · simp only [putSt, lk, lkb, reduceCtorEq, Nat.reduceEqDiff]; done
    skip)
 | ((with_reducible refine wp_ite ?_ ?_)
    all_goals (intro hc; (try (simp only [Bool.not_eq_true, Bool.not_eq_false] at hc)); simp only [hc]))
 | (with_reducible apply regW_skip
    · simp only [dstOk, Nat.reduceLT]
    · rfl
    · simp only [putSt, lk, lkb, reduceCtorEq, Nat.reduceEqDiff]; done)
 | (with_reducible apply regW_yesN
    · simp only [dstOk, Nat.reduceLT]
    · rfl
    · simp only [putSt, lk, lkb, reduceCtorEq, Nat.reduceEqDiff]; done)
 | (with_reducible apply regW_no
    · simp only [dstOk, Nat.reduceLT]
    · rfl
    · simp only [putSt, lk, lkb, reduceCtorEq, Nat.reduceEqDiff, Bool.not_true, Bool.not_false]; done)
 | (with_reducible apply regW_guardN
    · simp only [dstOk, Nat.reduceLT]
    · rfl
    · simp only [putSt, lk, lkb, reduceCtorEq, Nat.reduceEqDiff]; rfl
    all_goals (intro hc; (try (simp only [Bool.not_true, Bool.not_false] at hc))))
 | (with_reducible apply sw_cond
    · simp only [putSt, lk, lkb, reduceCtorEq, Nat.reduceEqDiff]; rfl
    all_goals (intro hc; try (cases hc; done)))
 | ((first
     | ((with_reducible refine gh_ret ?_)
        revert h
        with_reducible refine some_elim ?_
        rintro rfl)
     | (with_reducible apply regD_opK
        · simp only [dstOk, Nat.reduceLT]
        · simp only [Nat.reduceAdd]; rfl
        intro k hk)
     | (with_reducible apply regW_opK
        · simp only [dstOk, Nat.reduceLT]
        · simp only [Nat.reduceAdd]; rfl
        intro k hk)
     | skip)
    simp only [RetW, bn, lkb, evb, opC, opP, fetchN, fetchP, fetchAll, fetchO, Prog.bind, Prog.wp, Prog.wp_bind, lk, nameP, nameAll, Value.oneCell', putSt, stepP, putP, reduceCtorEq, V.lin, V.linL, D.lin, isNil, binP, unP, BinOp.isShift, Prog.ofO, Nat.reduceAdd, Nat.reduceMul, Nat.reduceSub, Nat.reduceLT, Nat.reduceLeDiff, Nat.reduceEqDiff, ite_true, ite_false, fieldAddrP, fieldP, indexAddrP, loadP, storeP, boxP, allocP, cellsP, asVal, setSeg, outP, outT, cntT, TyK.field, TyK.agg, zeroRow, V.ren, V.renL, forall_eq_or_imp, forall_const, minmaxP, lenP, lenOf, lenStr, V.asInt, decide_true, decide_false, sliceP, boundP, makeSliceP, convertP, appendP, rowsOfP, ontoP, sizeFits, V.rowSize, TyK.src, resV, resV.go, resV.gol, retP, retOne, retAll, resTo, objsAre, Option.map_eq_map, Function.const_apply, Int.reduceNeg, Int.reduceToNat, ty2, ty26, ty28, ty30, ty53, ty63, ty65, ty68, ty107, ty122, GFunc.cells, GI2.cells, GProgram.cells, Gprog.cells, cI, cB, cS, cL, GI2_e, GFunc_e, GProgram_e, Gprog_e, LcIi64_e, nilEqP, ne_eq, not_false_eq_true, not_true_eq_false, *]
    try (refine hk.use _ _ _ _ ?_; clear hk k))
 | fail)
  all_goals (try rfl)
  all_goals (try (simp; done))
  all_goals (try (simp_all; done))
def impl_prog_place (p0 : Gprog) (p1 : Int) (p2 : Int) : Option (Bool) :=
  (impl_prog_code p0 p1).bind fun t1 => (impl_in p2 0 ((IntKind.i64.wrap (((t1.length : Int)) - 1)))).bind fun t2 => some t2
def impl_prog_reached (p0 : Gprog) (p1 : Int) (p2 : Int) : Option (Bool) :=
  (impl_hasFunc p0.program p1).bind fun t1 => cond t1 (cond ((decide (p2 ≥ 0))) ((idx p0.h p1).bind fun m2 => cond ((decide (p2 < ((m2.length : Int))))) ((idx m2 p2).bind fun m3 => some ((decide (m3 ≥ 0)))) (some false)) (some false)) (some false)
theorem c_impl_prog_reached {p0 : Gprog} {p1 : Int} {p2 : Int} {r : Bool} (h : impl_prog_reached p0 p1 p2 = some r) : Con Try.prog 72 [.d (.ptr .bor [.row .bor 3 (Rw (GFunc.cells .bor) p0.program.funcs), .row .bor 1 (Rw (cL .bor 1 (cI .i64)) p0.h)]), V.int p1, V.int p2] [] (V.bool r) [] := by
  refine con_of_sw Try.func72 rfl Try.call72 (by simp [Try.ntmps72]) (by simp [V.inNs, V.inN]) (by simp [C.inN, V.inNss, V.inNs, V.inN, inNss_dd]) (by simp [V.inNs, V.inN]) (by simp [C.inN, V.inNss, V.inNs, V.inN, inNss_dd]) rfl ?_
  rw [Try.ntmps72, Try.results72]
  unfold impl_prog_reached at h
  replace h := Yes.mk h
  simp only [entryS, entryO, Nat.reduceAdd, List.length_nil, List.length_cons]
  repeat' (first
 | (with_reducible (first | refine sw_reg ?_ | refine sw_ret ?_ | refine sw_skip ?_ | refine sw_block ?_ | refine sw_exit ?_ | refine seqQ_normal ?_ | refine blockQ_normal ?_ | refine blockQ_ret ?_ | refine blockQ_this ?_ | refine blockQ_other (by decide) ?_ | refine regW_nil ?_ | refine sw_draw mixed ?_ | refine retQ_ret ?_ | refine retQ_normal ?_))
 | (with_reducible refine regD_nil ?_
    refine ⟨by kernel_rfl, ?_⟩)
 | (revert h; (first | ((with_reducible refine idx_elim ?_); intro m hm1 hm2 hm3 h; (try (simp only [Int.reduceToNat] at hm3)); (try (revert hm3; (with_reducible apply same_elim); (focus (with_reducible assumption)); rintro rfl)); (try (simp only [List.length_set, List.length_cons, List.length_nil, List.length_replicate, Nat.reduceAdd, Int.cast_ofNat_Int, Nat.zero_add, List.length_append] at hm2))) | (with_reducible refine sidx_elim ?_; intro m hm1 hm3 h) | (with_reducible refine gd_elim ?_; intro hg h; try (have hg2 := hg.2; have hg := hg.1; (try (simp only [Nat.reduceLeDiff] at hg2)); (try (revert hg2; (with_reducible refine toNat_elim hg ?_); intro hg2 hg4)); try (have hg3 := hg2.2; have hg2 := hg2.1; (try (simp only [Nat.reduceLeDiff] at hg3))))) | (with_reducible refine condt_elim ?_ ?_; (focus (with_reducible assumption)); intro h) | (with_reducible refine condf_elim ?_ ?_; (focus (with_reducible assumption)); intro h)))
 | with_reducible refine sw_seq ?_
 | with_reducible refine seqQ_ret ?_
 | with_reducible refine seqQ_exit ?_
 | ((with_reducible refine wp_ite ?_ ?_)
    all_goals (intro hc; (try (simp only [Bool.not_eq_true, Bool.not_eq_false] at hc)); simp only [hc]))
 | (with_reducible apply regW_skip
    · simp only [dstOk, Nat.reduceLT]
    · rfl
    · simp only [putSt, lk, lkb, reduceCtorEq, Nat.reduceEqDiff]; done)
 | (with_reducible apply regW_yesN
    · simp only [dstOk, Nat.reduceLT]
    · rfl
    · simp only [putSt, lk, lkb, reduceCtorEq, Nat.reduceEqDiff]; done)
 | (with_reducible apply regW_no
    · simp only [dstOk, Nat.reduceLT]
    · rfl
    · simp only [putSt, lk, lkb, reduceCtorEq, Nat.reduceEqDiff, Bool.not_true, Bool.not_false]; done)
 | (with_reducible apply regW_guardN
    · simp only [dstOk, Nat.reduceLT]
    · rfl
    · simp only [putSt, lk, lkb, reduceCtorEq, Nat.reduceEqDiff]; rfl
    all_goals (intro hc; (try (simp only [Bool.not_true, Bool.not_false] at hc))))
 | (with_reducible apply sw_cond
    · simp only [putSt, lk, lkb, reduceCtorEq, Nat.reduceEqDiff]; rfl
    all_goals (intro hc; try (cases hc; done)))
 | ((first
     | ((with_reducible refine gh_ret ?_)
        revert h
        with_reducible refine some_elim ?_
        rintro rfl)
     | (with_reducible refine here_call ?_
        revert h
        with_reducible refine bind_elim ?_
        intro t ht h
        (first
          | (refine call_dataE (c_impl_hasFunc ht) ?_ rfl ?_
             · first | rfl | (simp; done))))
     | (with_reducible apply regD_opK
        · simp only [dstOk, Nat.reduceLT]
        · simp only [Nat.reduceAdd]; rfl
        intro k hk)
     | (with_reducible apply regW_opK
        · simp only [dstOk, Nat.reduceLT]
        · simp only [Nat.reduceAdd]; rfl
        intro k hk)
     | skip)
    simp only [RetW, bn, lkb, evb, opC, opP, fetchN, fetchP, fetchAll, fetchO, Prog.bind, Prog.wp, Prog.wp_bind, lk, nameP, nameAll, Value.oneCell', putSt, stepP, putP, reduceCtorEq, V.lin, V.linL, D.lin, isNil, binP, unP, BinOp.isShift, Prog.ofO, Nat.reduceAdd, Nat.reduceMul, Nat.reduceSub, Nat.reduceLT, Nat.reduceLeDiff, Nat.reduceEqDiff, ite_true, ite_false, fieldAddrP, fieldP, indexAddrP, loadP, storeP, boxP, allocP, cellsP, asVal, setSeg, outP, outT, cntT, TyK.field, TyK.agg, zeroRow, V.ren, V.renL, forall_eq_or_imp, forall_const, minmaxP, lenP, lenOf, lenStr, V.asInt, decide_true, decide_false, sliceP, boundP, makeSliceP, convertP, appendP, rowsOfP, ontoP, sizeFits, V.rowSize, TyK.src, resV, resV.go, resV.gol, retP, retOne, retAll, resTo, objsAre, Option.map_eq_map, Function.const_apply, Int.reduceNeg, Int.reduceToNat, ty2, ty4, ty26, ty28, ty30, ty53, ty63, ty65, ty68, ty107, ty122, GFunc.cells, GI2.cells, GProgram.cells, Gprog.cells, cI, cB, cS, cL, GI2_e, GFunc_e, GProgram_e, Gprog_e, LcIi64_e, nilEqP, ne_eq, not_false_eq_true, not_true_eq_false, *]
    try (refine hk.use _ _ _ _ ?_; clear hk k))
 | fail)
  all_goals (try rfl)
  all_goals (try (simp; done))
  all_goals (try (simp_all; done))
def impl_prog_preds.l3 : Nat → (List Int) → Gprog → Int → Int → (List Int) → Int → (List GI2) → Int → Int → Int → Int → Option (Gprog × Int × Int × (List Int) × (List GI2) × Int × Int)
  | 0, _, _, _, _, _, _, _, _, _, _, _ => none
  | k + 1, a1, a2, a3, a4, a5, a6, a7, a8, a9, a10, a11 => cond ((decide (a11 < a10))) ((idx a1 a11).bind fun m5 => cond ((m5 == a4)) (gd ((a5.length + 1) * 8 ≤ 35184372088832 ∧ a5.length + 1 ≤ 35184372088832) (some (a2, a3, a4, (a5 ++ [a6]), a7, a8, a9))) (impl_prog_preds.l3 k a1 a2 a3 a4 a5 a6 a7 a8 a9 a10 ((IntKind.i64.wrap (a11 + 1))))) (some (a2, a3, a4, a5, a7, a8, a9))
def impl_prog_preds.a2 (k : Nat) (a1 : (List Int)) (a2 : Gprog) (a3 : Int) (a4 : Int) (a5 : (List GI2)) (a6 : Int) (a7 : Int) : Option (Gprog × Int × Int × (List Int) × (List GI2) × Int × Int) :=
  (idx a5 a7).bind fun m2 => (impl_prog_reached a2 a3 a7).bind fun t3 => cond ((!t3)) (some (a2, a3, a4, a1, a5, a6, a7)) ((impl_next m2 a7).bind fun t4 => (impl_prog_preds.l3 k t4 a2 a3 a4 a1 a7 a5 a6 a7 ((t4.length : Int)) 0).bind fun o3 => some (o3.1, o3.2.1, o3.2.2.1, o3.2.2.2.1, o3.2.2.2.2.1, o3.2.2.2.2.2.1, o3.2.2.2.2.2.2))
def impl_prog_preds.l1 : Nat → Gprog → Int → Int → (List Int) → (List GI2) → Int → Int → Option ((List Int))
  | 0, _, _, _, _, _, _, _ => none
  | k + 1, a1, a2, a3, a4, a5, a6, a7 => cond ((decide (a7 < a6))) ((impl_prog_preds.a2 k a4 a1 a2 a3 a5 a6 a7).bind fun o2 => impl_prog_preds.l1 k o2.1 o2.2.1 o2.2.2.1 o2.2.2.2.1 o2.2.2.2.2.1 o2.2.2.2.2.2.1 ((IntKind.i64.wrap (o2.2.2.2.2.2.2 + 1)))) (some (a4))
def impl_prog_preds (k : Nat) (p0 : Gprog) (p1 : Int) (p2 : Int) : Option ((List Int)) :=
  (impl_prog_code p0 p1).bind fun t1 => (impl_prog_preds.l1 k p0 p1 p2 [] t1 ((t1.length : Int)) 0).bind fun o1 => some o1
theorem c_impl_prog_preds {k : Nat} {p0 : Gprog} {p1 : Int} {p2 : Int} {r : (List Int)} (h : impl_prog_preds k p0 p1 p2 = some r) : Con Try.prog 41 [.d (.ptr .bor [.row .bor 3 (Rw (GFunc.cells .bor) p0.program.funcs), .row .bor 1 (Rw (cL .bor 1 (cI .i64)) p0.h)]), V.int p1, V.int p2] [] (.d (.row .own 1 (Rw (cI .i64) r))) [] := by
  refine con_of_sw Try.func41 rfl Try.call41 (by simp [Try.ntmps41]) (by simp [V.inNs, V.inN]) (by simp [C.inN, V.inNss, V.inNs, V.inN, inNss_dd]) (by simp [V.inNs, V.inN]) (by simp [C.inN, V.inNss, V.inNs, V.inN, inNss_dd]) rfl ?_
  rw [Try.ntmps41, Try.results41]
  unfold impl_prog_preds at h
  replace h := Yes.mk h
  simp only [entryS, entryO, Nat.reduceAdd, List.length_nil, List.length_cons]
  repeat' (first
 | (with_reducible (first | refine sw_reg ?_ | refine sw_ret ?_ | refine sw_skip ?_ | refine sw_block ?_ | refine sw_exit ?_ | refine seqQ_normal ?_ | refine blockQ_normal ?_ | refine blockQ_ret ?_ | refine blockQ_this ?_ | refine blockQ_other (by decide) ?_ | refine regW_nil ?_ | refine sw_draw mixed ?_ | refine retQ_ret ?_ | refine retQ_normal ?_))
 | (with_reducible refine regD_nil ?_
    refine ⟨by kernel_rfl, ?_⟩)
 | (revert h; (first | ((with_reducible refine idx_elim ?_); intro m hm1 hm2 hm3 h; (try (simp only [Int.reduceToNat] at hm3)); (try (revert hm3; (with_reducible apply same_elim); (focus (with_reducible assumption)); rintro rfl)); (try (simp only [List.length_set, List.length_cons, List.length_nil, List.length_replicate, Nat.reduceAdd, Int.cast_ofNat_Int, Nat.zero_add, List.length_append] at hm2))) | (with_reducible refine sidx_elim ?_; intro m hm1 hm3 h) | (with_reducible refine gd_elim ?_; intro hg h; try (have hg2 := hg.2; have hg := hg.1; (try (simp only [Nat.reduceLeDiff] at hg2)); (try (revert hg2; (with_reducible refine toNat_elim hg ?_); intro hg2 hg4)); try (have hg3 := hg2.2; have hg2 := hg2.1; (try (simp only [Nat.reduceLeDiff] at hg3))))) | (with_reducible refine condt_elim ?_ ?_; (focus (with_reducible assumption)); intro h) | (with_reducible refine condf_elim ?_ ?_; (focus (with_reducible assumption)); intro h)))
 | ((first | with_reducible refine seqQ_ret (K := (fun st1 n1 => Gh st1 n1 (NextS _ 30000000 _ _ _ _))) ?_ | with_reducible refine seqQ_exit (K := (fun st1 n1 => Gh st1 n1 (NextS _ 30000000 _ _ _ _))) ?_)
    obtain rfl := h.get
    have h := hK3
    (try (simp only [Sum.elim_inl, Sum.elim_inr] at h)))
 | ((first | with_reducible refine seqQ_ret (K := (fun st1 n1 => Gh st1 n1 (MeetA _ 20000000 _ _))) ?_ | with_reducible refine seqQ_exit (K := (fun st1 n1 => Gh st1 n1 (MeetA _ 20000000 _ _))) ?_)
    obtain rfl := h.get
    have h := hK2
    (try (simp only [Sum.elim_inl, Sum.elim_inr] at h)))
 | ((first | with_reducible refine seqQ_ret (K := (fun st1 n1 => Gh st1 n1 (NextS _ 10000000 _ _ _ _))) ?_ | with_reducible refine seqQ_exit (K := (fun st1 n1 => Gh st1 n1 (NextS _ 10000000 _ _ _ _))) ?_)
    obtain rfl := h.get
    have h := hK1
    (try (simp only [Sum.elim_inl, Sum.elim_inr] at h)))
 | (with_reducible refine here_loop (c := (.seq (.region 7 _ _) _)) ?_
    skip
    revert h
    with_reducible refine bind_elimY ?_
    intro o3 h hK3
    refine sw_gh ?_
    refine gh_resSlot 7 ?_
    simp only [rxb, Nat.reduceAdd, Nat.reduceLeDiff, resSlotP, nameSlotP, Prog.wp, Prog.wp_bind, Prog.bind, Prog.ofO, putSt, lk, lkb, reduceCtorEq, Nat.reduceEqDiff, resV, resV.go, resV.gol, nameAll, nameP, outP, outT, cntT, V.lin, D.lin, *]
    refine gh_sw ?_
    refine sw_loop (ι := Nat × (List Int) × Gprog × Int × Int × (List Int) × Int × (List GI2) × Int × Int × Int × Int) 30000000 (by decide) (fun x : Nat × (List Int) × Gprog × Int × Int × (List Int) × Int × (List GI2) × Int × Int × Int × Int => [(.s 0, some (.v (.d (.ptr .bor [.row .bor 3 (Rw (GFunc.cells .bor) x.2.2.1.program.funcs), .row .bor 1 (Rw (cL .bor 1 (cI .i64)) x.2.2.1.h)])))), (.s 1, some (.v (V.int x.2.2.2.1))), (.s 2, some (.v (V.int x.2.2.2.2.1))), (.s 7, some (.v (.d (.row .own 1 (Rw (cI .i64) x.2.2.2.2.2.1))))), (.s 8, some (.v (V.int x.2.2.2.2.2.2.1))), (.s 14, some (.v (.d (.row .bor 2 (Rw GI2.cells x.2.2.2.2.2.2.2.1))))), (.s 15, some (.v (V.int x.2.2.2.2.2.2.2.2.1))), (.s 16, some (.v (V.int x.2.2.2.2.2.2.2.2.2.1))), (.s 28, some (.v (.sl 10000960 1 0 x.2.1.length))), (.s 29, some (.v (V.int x.2.2.2.2.2.2.2.2.2.2.1))), (.s 30, some (.v (V.int x.2.2.2.2.2.2.2.2.2.2.2))), (.r 10000960, some (.o 1 (dd (Rw (cI .i64) x.2.1))))]) (fun x => x.1) (fun x => Yes (impl_prog_preds.l3 x.1 x.2.1 x.2.2.1 x.2.2.2.1 x.2.2.2.2.1 x.2.2.2.2.2.1 x.2.2.2.2.2.2.1 x.2.2.2.2.2.2.2.1 x.2.2.2.2.2.2.2.2.1 x.2.2.2.2.2.2.2.2.2.1 x.2.2.2.2.2.2.2.2.2.2.1 x.2.2.2.2.2.2.2.2.2.2.2) o3) (_, _, _, _, _, _, _, _, _, _, _, _) ?_ h ?_ ?_
    · exact (by simp [slNL, C.inN, V.inN, V.inNs, V.inNss, inNss_dd, inNs_map_d])
    · simp only [SubL, putSt, lk, lkb, reduceCtorEq, Nat.reduceEqDiff, List.length_set, List.length_replicate]; repeat' (first | apply And.intro | rfl | trivial | (simp only [*]; done))
    rintro ⟨_ | k, a1, a2, a3, a4, a5, a6, a7, a8, a9, a10, a11⟩ h
    · simp only [impl_prog_preds.l3] at h; exact h.none
    simp only [impl_prog_preds.l3] at h
    refine sw_gh ?_
    refine gh_nameSlot 7 ?_
    simp only [rxb, Nat.reduceAdd, Nat.reduceLeDiff, resSlotP, nameSlotP, Prog.wp, Prog.wp_bind, Prog.bind, Prog.ofO, putSt, lk, lkb, reduceCtorEq, Nat.reduceEqDiff, resV, resV.go, resV.gol, nameAll, nameP, outP, outT, cntT, V.lin, D.lin, Nat.reduceAdd]
    refine gh_sw ?_
)
 | (with_reducible refine here_next (N0 := 30000000) ?_
    skip
    refine gh_resSlot 7 ?_
    simp only [rxb, Nat.reduceAdd, Nat.reduceLeDiff, resSlotP, nameSlotP, Prog.wp, Prog.wp_bind, Prog.bind, Prog.ofO, putSt, lk, lkb, reduceCtorEq, Nat.reduceEqDiff, resV, resV.go, resV.gol, nameAll, nameP, outP, outT, cntT, V.lin, D.lin, *]
    refine nexts_to (_, _, _, _, _, _, _, _, _, _, _, _) (by decide) ?_ (Nat.lt_succ_self _) h ?_
    · exact (by simp [slNL, C.inN, V.inN, V.inNs, V.inNss, inNss_dd, inNs_map_d])
    · simp only [SubL, putSt, lk, lkb, reduceCtorEq, Nat.reduceEqDiff, List.length_set, List.length_replicate]; repeat' (first | apply And.intro | rfl | trivial | (simp only [*]; done)))
 | (with_reducible refine here_join (a := (.block 1 _)) (b := (.region 12 _ _)) ?_
    skip
    revert h
    with_reducible refine bind_elimY ?_
    intro o2 h hK2
    unfold impl_prog_preds.a2 at h
    refine sw_join (ι := Gprog × Int × Int × (List Int) × (List GI2) × Int × Int) 20000000 (fun x : Gprog × Int × Int × (List Int) × (List GI2) × Int × Int => [(.s 0, some (.v (.d (.ptr .bor [.row .bor 3 (Rw (GFunc.cells .bor) x.1.program.funcs), .row .bor 1 (Rw (cL .bor 1 (cI .i64)) x.1.h)])))), (.s 1, some (.v (V.int x.2.1))), (.s 2, some (.v (V.int x.2.2.1))), (.s 7, some (.v (.d (.row .own 1 (Rw (cI .i64) x.2.2.2.1))))), (.s 14, some (.v (.d (.row .bor 2 (Rw GI2.cells x.2.2.2.2.1))))), (.s 15, some (.v (V.int x.2.2.2.2.2.1))), (.s 16, some (.v (V.int x.2.2.2.2.2.2)))]) (fun x => Yes (some (x)) o2) ?_ ?_
    rotate_left
    rintro ⟨b1, b2, b3, b4, b5, b6, b7⟩ h
    obtain rfl := h.get
    have h := hK2
    (try (simp only [Sum.elim_inl, Sum.elim_inr] at h))
    refine sw_gh ?_
    refine gh_nameSlot 7 ?_
    simp only [rxb, Nat.reduceAdd, Nat.reduceLeDiff, resSlotP, nameSlotP, Prog.wp, Prog.wp_bind, Prog.bind, Prog.ofO, putSt, lk, lkb, reduceCtorEq, Nat.reduceEqDiff, resV, resV.go, resV.gol, nameAll, nameP, outP, outT, cntT, V.lin, D.lin, Nat.reduceAdd]
    refine gh_sw ?_
    skip)
 | (with_reducible refine here_meet (N0 := 20000000) ?_
    skip
    refine gh_resSlot 7 ?_
    simp only [rxb, Nat.reduceAdd, Nat.reduceLeDiff, resSlotP, nameSlotP, Prog.wp, Prog.wp_bind, Prog.bind, Prog.ofO, putSt, lk, lkb, reduceCtorEq, Nat.reduceEqDiff, resV, resV.go, resV.gol, nameAll, nameP, outP, outT, cntT, V.lin, D.lin, *]
    refine meet_to (_, _, _, _, _, _, _) (by decide) ?_ h ?_
    · exact (by simp [slNL, C.inN, V.inN, V.inNs, V.inNss, inNss_dd, inNs_map_d])
    · simp only [SubL, putSt, lk, lkb, reduceCtorEq, Nat.reduceEqDiff, List.length_set, List.length_replicate]; repeat' (first | apply And.intro | rfl | trivial | (simp only [*]; done)))
 | (with_reducible refine here_loop (c := (.seq (.region 3 _ _) _)) ?_
    skip
    revert h
    with_reducible refine bind_elimY ?_
    intro o1 h hK1
    refine sw_gh ?_
    (try (refine gh_nilRow 7 .own 1 ?_ ?_; (focus (simp only [putSt, lk, lkb, reduceCtorEq, Nat.reduceEqDiff]; done))))
    refine gh_resSlot 7 ?_
    simp only [rxb, Nat.reduceAdd, Nat.reduceLeDiff, resSlotP, nameSlotP, Prog.wp, Prog.wp_bind, Prog.bind, Prog.ofO, putSt, lk, lkb, reduceCtorEq, Nat.reduceEqDiff, resV, resV.go, resV.gol, nameAll, nameP, outP, outT, cntT, V.lin, D.lin, *]
    refine gh_sw ?_
    refine sw_loop (ι := Nat × Gprog × Int × Int × (List Int) × (List GI2) × Int × Int) 10000000 (by decide) (fun x : Nat × Gprog × Int × Int × (List Int) × (List GI2) × Int × Int => [(.s 0, some (.v (.d (.ptr .bor [.row .bor 3 (Rw (GFunc.cells .bor) x.2.1.program.funcs), .row .bor 1 (Rw (cL .bor 1 (cI .i64)) x.2.1.h)])))), (.s 1, some (.v (V.int x.2.2.1))), (.s 2, some (.v (V.int x.2.2.2.1))), (.s 7, some (.v (.d (.row .own 1 (Rw (cI .i64) x.2.2.2.2.1))))), (.s 14, some (.v (.d (.row .bor 2 (Rw GI2.cells x.2.2.2.2.2.1))))), (.s 15, some (.v (V.int x.2.2.2.2.2.2.1))), (.s 16, some (.v (V.int x.2.2.2.2.2.2.2)))]) (fun x => x.1) (fun x => Yes (impl_prog_preds.l1 x.1 x.2.1 x.2.2.1 x.2.2.2.1 x.2.2.2.2.1 x.2.2.2.2.2.1 x.2.2.2.2.2.2.1 x.2.2.2.2.2.2.2) o1) (_, _, _, _, _, _, _, _) ?_ h ?_ ?_
    · exact (by simp [slNL, C.inN, V.inN, V.inNs, V.inNss, inNss_dd, inNs_map_d])
    · simp only [SubL, putSt, lk, lkb, reduceCtorEq, Nat.reduceEqDiff, List.length_set, List.length_replicate]; repeat' (first | apply And.intro | rfl | trivial | (simp only [*]; done))
    rintro ⟨_ | k, a1, a2, a3, a4, a5, a6, a7⟩ h
    · simp only [impl_prog_preds.l1] at h; exact h.none
    simp only [impl_prog_preds.l1] at h
    refine sw_gh ?_
    refine gh_nameSlot 7 ?_
    simp only [rxb, Nat.reduceAdd, Nat.reduceLeDiff, resSlotP, nameSlotP, Prog.wp, Prog.wp_bind, Prog.bind, Prog.ofO, putSt, lk, lkb, reduceCtorEq, Nat.reduceEqDiff, resV, resV.go, resV.gol, nameAll, nameP, outP, outT, cntT, V.lin, D.lin, Nat.reduceAdd]
    refine gh_sw ?_
)
 | (with_reducible refine here_next (N0 := 10000000) ?_
    skip
    (try (refine gh_nilRow 7 .own 1 ?_ ?_; (focus (simp only [putSt, lk, lkb, reduceCtorEq, Nat.reduceEqDiff]; done))))
    refine gh_resSlot 7 ?_
    simp only [rxb, Nat.reduceAdd, Nat.reduceLeDiff, resSlotP, nameSlotP, Prog.wp, Prog.wp_bind, Prog.bind, Prog.ofO, putSt, lk, lkb, reduceCtorEq, Nat.reduceEqDiff, resV, resV.go, resV.gol, nameAll, nameP, outP, outT, cntT, V.lin, D.lin, *]
    refine nexts_to (_, _, _, _, _, _, _, _) (by decide) ?_ (Nat.lt_succ_self _) h ?_
    · exact (by simp [slNL, C.inN, V.inN, V.inNs, V.inNss, inNss_dd, inNs_map_d])
    · simp only [SubL, putSt, lk, lkb, reduceCtorEq, Nat.reduceEqDiff, List.length_set, List.length_replicate]; repeat' (first | apply And.intro | rfl | trivial | (simp only [*]; done)))
 | with_reducible refine sw_seq ?_
 | with_reducible refine seqQ_ret ?_
 | with_reducible refine seqQ_exit ?_
 | (with_reducible refine gh_nilRow 6 .own 1 ?_ ?_
    · simp only [putSt, lk, lkb, reduceCtorEq, Nat.reduceEqDiff]; done
    skip)
 | ((with_reducible refine wp_ite ?_ ?_)
    all_goals (intro hc; (try (simp only [Bool.not_eq_true, Bool.not_eq_false] at hc)); simp only [hc]))
 | (with_reducible apply regW_skip
    · simp only [dstOk, Nat.reduceLT]
    · rfl
    · simp only [putSt, lk, lkb, reduceCtorEq, Nat.reduceEqDiff]; done)
 | (with_reducible apply regW_yesN
    · simp only [dstOk, Nat.reduceLT]
    · rfl
    · simp only [putSt, lk, lkb, reduceCtorEq, Nat.reduceEqDiff]; done)
 | (with_reducible apply regW_no
    · simp only [dstOk, Nat.reduceLT]
    · rfl
    · simp only [putSt, lk, lkb, reduceCtorEq, Nat.reduceEqDiff, Bool.not_true, Bool.not_false]; done)
 | (with_reducible apply regW_guardN
    · simp only [dstOk, Nat.reduceLT]
    · rfl
    · simp only [putSt, lk, lkb, reduceCtorEq, Nat.reduceEqDiff]; rfl
    all_goals (intro hc; (try (simp only [Bool.not_true, Bool.not_false] at hc))))
 | (with_reducible apply sw_cond
    · simp only [putSt, lk, lkb, reduceCtorEq, Nat.reduceEqDiff]; rfl
    all_goals (intro hc; try (cases hc; done)))
 | ((first
     | ((with_reducible refine gh_ret ?_)
        revert h
        with_reducible refine some_elim ?_
        rintro rfl)
     | (with_reducible refine here_call ?_
        revert h
        with_reducible refine bind_elim ?_
        intro t ht h
        (first
          | (refine call_dataE (c_impl_prog_code ht) ?_ rfl ?_
             · first | rfl | (simp; done))
          | (refine call_dataE (c_impl_prog_reached ht) ?_ rfl ?_
             · first | rfl | (simp; done))
          | (refine call_dataE (c_impl_next ht) ?_ rfl ?_
             · first | rfl | (simp; done))))
     | (with_reducible apply regD_opK
        · simp only [dstOk, Nat.reduceLT]
        · simp only [Nat.reduceAdd]; rfl
        intro k hk)
     | (with_reducible apply regW_opK
        · simp only [dstOk, Nat.reduceLT]
        · simp only [Nat.reduceAdd]; rfl
        intro k hk)
     | skip)
    simp only [RetW, bn, lkb, evb, opC, opP, fetchN, fetchP, fetchAll, fetchO, Prog.bind, Prog.wp, Prog.wp_bind, lk, nameP, nameAll, Value.oneCell', putSt, stepP, putP, reduceCtorEq, V.lin, V.linL, D.lin, isNil, binP, unP, BinOp.isShift, Prog.ofO, Nat.reduceAdd, Nat.reduceMul, Nat.reduceSub, Nat.reduceLT, Nat.reduceLeDiff, Nat.reduceEqDiff, ite_true, ite_false, fieldAddrP, fieldP, indexAddrP, loadP, storeP, boxP, allocP, cellsP, asVal, setSeg, outP, outT, cntT, TyK.field, TyK.agg, zeroRow, V.ren, V.renL, forall_eq_or_imp, forall_const, minmaxP, lenP, lenOf, lenStr, V.asInt, decide_true, decide_false, sliceP, boundP, makeSliceP, convertP, appendP, rowsOfP, ontoP, sizeFits, V.rowSize, TyK.src, resV, resV.go, resV.gol, retP, retOne, retAll, resTo, objsAre, Option.map_eq_map, Function.const_apply, Int.reduceNeg, Int.reduceToNat, ty2, ty3, ty4, ty26, ty28, ty30, ty53, ty63, ty65, ty68, ty107, ty122, GFunc.cells, GI2.cells, GProgram.cells, Gprog.cells, cI, cB, cS, cL, GI2_e, GFunc_e, GProgram_e, Gprog_e, LcIi64_e, buildP, buildSliceP, putParts, structPlaces, chunks, List.replicate, List.flatten_nil, List.flatten_cons, Option.bind_some, bb, GI2_b, GFunc_b, GProgram_b, Gprog_b, LcIi64_b, nilEqP, ne_eq, not_false_eq_true, not_true_eq_false, *]
    try (refine hk.use _ _ _ _ ?_; clear hk k))
 | fail)
  all_goals (try rfl)
  all_goals (try (simp; done))
  all_goals (try (simp_all; done))
def impl_Preds (k : Nat) (p0 : GProgram) (p1 : Int) (p2 : Int) : Option ((List Int)) :=
  (impl_knownFunc k p0 p1).bind fun t1 => cond ((!t1.2)) (some []) ((impl_prog_place t1.1 p1 p2).bind fun t2 => cond ((!t2)) (some []) ((impl_prog_preds k t1.1 p1 p2).bind fun t3 => some t3))
def laws_eqInt64S.l1 : Nat → (List Int) → (List Int) → Int → Option ((Bool) ⊕ (Unit))
  | 0, _, _, _ => none
  | k + 1, a1, a2, a3 => cond ((decide (a3 < ((a1.length : Int))))) ((idx a1 a3).bind fun m1 => (idx a2 a3).bind fun m2 => cond ((m1 != m2)) (some (.inl (false))) (laws_eqInt64S.l1 k a1 a2 ((IntKind.i64.wrap (a3 + 1))))) (some (.inr ()))
def laws_eqInt64S (k : Nat) (p0 : (List Int)) (p1 : (List Int)) : Option (Bool) :=
  cond ((((p0.length : Int)) != ((p1.length : Int)))) (some false) ((laws_eqInt64S.l1 k p0 p1 0).bind fun o1 => Sum.elim (fun o1l => some o1l) (fun o1r => some true) o1)
def laws_eqIns (p0 : GI2) (p1 : GI2) : Option (Bool) :=
  cond ((p0.a != p1.a)) (some false) (cond ((p0.b != p1.b)) (some false) (some true))
def laws_eqInsS.l1 : Nat → (List GI2) → (List GI2) → Int → Option ((Bool) ⊕ (Unit))
  | 0, _, _, _ => none
  | k + 1, a1, a2, a3 => cond ((decide (a3 < ((a1.length : Int))))) ((idx a1 a3).bind fun m1 => (idx a2 a3).bind fun m2 => (laws_eqIns m1 m2).bind fun t3 => cond ((!t3)) (some (.inl (false))) (laws_eqInsS.l1 k a1 a2 ((IntKind.i64.wrap (a3 + 1))))) (some (.inr ()))
def laws_eqInsS (k : Nat) (p0 : (List GI2)) (p1 : (List GI2)) : Option (Bool) :=
  cond ((((p0.length : Int)) != ((p1.length : Int)))) (some false) ((laws_eqInsS.l1 k p0 p1 0).bind fun o1 => Sum.elim (fun o1l => some o1l) (fun o1r => some true) o1)
def laws_eqFunc (k : Nat) (p0 : GFunc) (p1 : GFunc) : Option (Bool) :=
  cond ((p0.args != p1.args)) (some false) (cond ((p0.locals != p1.locals)) (some false) ((laws_eqInsS k p0.code p1.code).bind fun t1 => cond ((!t1)) (some false) (some true)))
def laws_eqFuncS.l1 : Nat → (List GFunc) → (List GFunc) → Int → Option ((Bool) ⊕ (Unit))
  | 0, _, _, _ => none
  | k + 1, a1, a2, a3 => cond ((decide (a3 < ((a1.length : Int))))) ((idx a1 a3).bind fun m1 => (idx a2 a3).bind fun m2 => (laws_eqFunc k m1 m2).bind fun t3 => cond ((!t3)) (some (.inl (false))) (laws_eqFuncS.l1 k a1 a2 ((IntKind.i64.wrap (a3 + 1))))) (some (.inr ()))
def laws_eqFuncS (k : Nat) (p0 : (List GFunc)) (p1 : (List GFunc)) : Option (Bool) :=
  cond ((((p0.length : Int)) != ((p1.length : Int)))) (some false) ((laws_eqFuncS.l1 k p0 p1 0).bind fun o1 => Sum.elim (fun o1l => some o1l) (fun o1r => some true) o1)
def laws_eqProgram (k : Nat) (p0 : GProgram) (p1 : GProgram) : Option (Bool) :=
  (laws_eqFuncS k p0.funcs p1.funcs).bind fun t1 => cond ((!t1)) (some false) (some true)
def laws_markInsS.l1 : Nat → (List GI2) → Int → Int → Option ((List GI2) × Int)
  | 0, _, _, _ => none
  | k + 1, a1, a2, a3 => cond ((decide (a3 < ((a1.length : Int))))) ((idx a1 a3).bind fun m1 => laws_markInsS.l1 k ((a1.set a3.toNat ((⟨a2, (IntKind.i64.wrap (a2 + 1))⟩ : GI2)))) ((IntKind.i64.wrap (((IntKind.i64.wrap (a2 + 1))) + 1))) ((IntKind.i64.wrap (a3 + 1)))) (some (a1, a2))
def laws_markInsS (k : Nat) (p0 : (List GI2)) (p1 : Int) : Option (Int × (List GI2)) :=
  (laws_markInsS.l1 k p0 p1 0).bind fun o1 => some (o1.2, o1.1)
def laws_markFuncS.l1 : Nat → (List GFunc) → Int → Int → Option ((List GFunc) × Int)
  | 0, _, _, _ => none
  | k + 1, a1, a2, a3 => cond ((decide (a3 < ((a1.length : Int))))) ((idx a1 a3).bind fun m1 => (laws_markInsS k m1.code ((IntKind.i64.wrap (((IntKind.i64.wrap (a2 + 1))) + 1)))).bind fun t2 => gd (t2.2.length = m1.code.length) (laws_markFuncS.l1 k ((((a1.set a3.toNat ((⟨a2, (IntKind.i64.wrap (a2 + 1)), m1.code⟩ : GFunc)))).set a3.toNat (⟨a2, (IntKind.i64.wrap (a2 + 1)), t2.2⟩ : GFunc))) t2.1 ((IntKind.i64.wrap (a3 + 1))))) (some (a1, a2))
def laws_markFuncS (k : Nat) (p0 : (List GFunc)) (p1 : Int) : Option (Int × (List GFunc)) :=
  (laws_markFuncS.l1 k p0 p1 0).bind fun o1 => some (o1.2, o1.1)
def laws_markProgram (k : Nat) (p0 : GProgram) (p1 : Int) : Option (Int × (List GFunc)) :=
  (laws_markFuncS k p0.funcs p1).bind fun t1 => gd (t1.2.length = p0.funcs.length) (some (t1.1, t1.2))
def laws_markInt64S.l1 : Nat → (List Int) → Int → Int → Option ((List Int) × Int)
  | 0, _, _, _ => none
  | k + 1, a1, a2, a3 => cond ((decide (a3 < ((a1.length : Int))))) ((idx a1 a3).bind fun m1 => laws_markInt64S.l1 k ((a1.set a3.toNat a2)) ((IntKind.i64.wrap (a2 + 1))) ((IntKind.i64.wrap (a3 + 1)))) (some (a1, a2))
def laws_markInt64S (k : Nat) (p0 : (List Int)) (p1 : Int) : Option (Int × (List Int)) :=
  (laws_markInt64S.l1 k p0 p1 0).bind fun o1 => some (o1.2, o1.1)
def laws_heldInt64S.l1 : Nat → (List Int) → Int → Int → Option ((Int) ⊕ (Int))
  | 0, _, _, _ => none
  | k + 1, a1, a2, a3 => cond ((decide (a3 < ((a1.length : Int))))) ((idx a1 a3).bind fun m1 => cond ((m1 != a2)) (some (.inl ((-1)))) (laws_heldInt64S.l1 k a1 ((IntKind.i64.wrap (a2 + 1))) ((IntKind.i64.wrap (a3 + 1))))) (some (.inr (a2)))
def laws_heldInt64S (k : Nat) (p0 : (List Int)) (p1 : Int) : Option (Int) :=
  (laws_heldInt64S.l1 k p0 p1 0).bind fun o1 => Sum.elim (fun o1l => some o1l) (fun o1r => some o1r) o1
end Go.Proofs.Ytdlaplgofgklnaa
namespace Go.Proofs.Ytdlaplgofgklnaa
open Go.Proofs Go.Proofs.Ytdlaplgofgklnaa.L
set_option maxHeartbeats 8000000
set_option linter.unusedSimpArgs false
set_option linter.unusedVariables false
set_option maxRecDepth 100000
def laws_FnExactPreds.a1 (k : Nat) (a1 : (List GFunc)) (a2 : (List Int)) (a3 : (List Int)) (a4 : Int) (a5 : Int) (a6 : Int) : Option ((Bool) ⊕ ((List GFunc) × (List Int) × (List Int) × Int × Int)) :=
  cond ((decide (a6 < 0))) (some (.inl (false))) ((laws_eqInt64S k a3 a2).bind fun t10 => cond ((!t10)) (some (.inl (false))) (some (.inr (a1, a2, a3, a4, a5))))
def laws_FnExactPreds (k : Nat) (p0 : GProgram) (p1 : Int) (p2 : Int) : Option (Bool) :=
  (laws_szProgram k p0 1048576).bind fun t1 => cond ((decide (t1 < 0))) (some true) ((laws_toProgram k p0).bind fun t2 => (spec_Preds k t2 p1 p2).bind fun t3 => (laws_toProgram k p0).bind fun t4 => (impl_Preds k t4 p1 p2).bind fun t5 => (laws_eqInt64S k t5 t3).bind fun t6 => cond ((!t6)) (some false) ((laws_toProgram k p0).bind fun t7 => (laws_eqProgram k t4 t7).bind fun t8 => cond ((!t8)) (some false) ((laws_markProgram k t4 1).bind fun t9 => gd (t9.2.length = t4.funcs.length) ((laws_FnExactPreds.a1 k p0.funcs t3 t5 p1 p2 t9.1).bind fun o1 => Sum.elim (fun o1l => some o1l) (fun o1r => (laws_markInt64S k o1r.2.2.1 1).bind fun t11 => gd (t11.2.length = o1r.2.2.1.length) ((laws_heldInt64S k t11.2 1).bind fun t12 => cond ((decide (t12 < 0))) (some false) (cond ((t12 != t11.1)) (some false) ((laws_toProgram k ((⟨o1r.1⟩ : GProgram))).bind fun t13 => (impl_Preds k t13 o1r.2.2.2.1 o1r.2.2.2.2).bind fun t14 => (laws_eqInt64S k t14 o1r.2.1).bind fun t15 => cond ((!t15)) (some false) ((laws_heldInt64S k t11.2 1).bind fun t16 => cond ((decide (t16 < 0))) (some false) (cond ((t16 != t11.1)) (some false) (some true))))))) o1))))
end Go.Proofs.Ytdlaplgofgklnaa
namespace Go.Proofs.Ytdlaplgofgklnaa
open Go.Proofs Go.Proofs.Ytdlaplgofgklnaa.L
set_option maxHeartbeats 1000000
set_option linter.unusedSimpArgs false
set_option linter.unusedVariables false
set_option maxRecDepth 100000
def spec_l08Bit (p0 : Int) : Option (Int) :=
  gd (0 ≤ ((IntKind.u64.wrap p0))) (some ((ishl .i64 1 ((IntKind.u64.wrap p0)))))
theorem c_spec_l08Bit {p0 : Int} {r : Int} (h : spec_l08Bit p0 = some r) : Con Try.prog 48 [V.int p0] [] (V.int r) [] := by
  refine con_of_sw Try.func48 rfl Try.call48 (by simp [Try.ntmps48]) (by simp [V.inNs, V.inN]) (by simp [C.inN, V.inNss, V.inNs, V.inN, inNss_dd]) (by simp [V.inNs, V.inN]) (by simp [C.inN, V.inNss, V.inNs, V.inN, inNss_dd]) rfl ?_
  rw [Try.ntmps48, Try.results48]
  unfold spec_l08Bit at h
  replace h := Yes.mk h
  simp only [entryS, entryO, Nat.reduceAdd, List.length_nil, List.length_cons]
  repeat' (first
 | (with_reducible (first | refine sw_reg ?_ | refine sw_ret ?_ | refine sw_skip ?_ | refine sw_block ?_ | refine sw_exit ?_ | refine seqQ_normal ?_ | refine blockQ_normal ?_ | refine blockQ_ret ?_ | refine blockQ_this ?_ | refine blockQ_other (by decide) ?_ | refine regW_nil ?_ | refine sw_draw mixed ?_ | refine retQ_ret ?_ | refine retQ_normal ?_))
 | (with_reducible refine regD_nil ?_
    refine ⟨by kernel_rfl, ?_⟩)
 | (revert h; (first | ((with_reducible refine idx_elim ?_); intro m hm1 hm2 hm3 h; (try (simp only [Int.reduceToNat] at hm3)); (try (revert hm3; (with_reducible apply same_elim); (focus (with_reducible assumption)); rintro rfl)); (try (simp only [List.length_set, List.length_cons, List.length_nil, List.length_replicate, Nat.reduceAdd, Int.cast_ofNat_Int, Nat.zero_add, List.length_append] at hm2))) | (with_reducible refine sidx_elim ?_; intro m hm1 hm3 h) | (with_reducible refine gd_elim ?_; intro hg h; try (have hg2 := hg.2; have hg := hg.1; (try (simp only [Nat.reduceLeDiff] at hg2)); (try (revert hg2; (with_reducible refine toNat_elim hg ?_); intro hg2 hg4)); try (have hg3 := hg2.2; have hg2 := hg2.1; (try (simp only [Nat.reduceLeDiff] at hg3))))) | (with_reducible refine condt_elim ?_ ?_; (focus (with_reducible assumption)); intro h) | (with_reducible refine condf_elim ?_ ?_; (focus (with_reducible assumption)); intro h)))
 | with_reducible refine sw_seq ?_
 | with_reducible refine seqQ_ret ?_
 | with_reducible refine seqQ_exit ?_
 | ((with_reducible refine wp_ite ?_ ?_)
    all_goals (intro hc; (try (simp only [Bool.not_eq_true, Bool.not_eq_false] at hc)); simp only [hc]))
 | (with_reducible apply regW_skip
    · simp only [dstOk, Nat.reduceLT]
    · rfl
    · simp only [putSt, lk, lkb, reduceCtorEq, Nat.reduceEqDiff]; done)
 | (with_reducible apply regW_yesN
    · simp only [dstOk, Nat.reduceLT]
    · rfl
    · simp only [putSt, lk, lkb, reduceCtorEq, Nat.reduceEqDiff]; done)
 | (with_reducible apply regW_no
    · simp only [dstOk, Nat.reduceLT]
    · rfl
    · simp only [putSt, lk, lkb, reduceCtorEq, Nat.reduceEqDiff, Bool.not_true, Bool.not_false]; done)
 | (with_reducible apply regW_guardN
    · simp only [dstOk, Nat.reduceLT]
    · rfl
    · simp only [putSt, lk, lkb, reduceCtorEq, Nat.reduceEqDiff]; rfl
    all_goals (intro hc; (try (simp only [Bool.not_true, Bool.not_false] at hc))))
 | (with_reducible apply sw_cond
    · simp only [putSt, lk, lkb, reduceCtorEq, Nat.reduceEqDiff]; rfl
    all_goals (intro hc; try (cases hc; done)))
 | ((first
     | ((with_reducible refine gh_ret ?_)
        revert h
        with_reducible refine some_elim ?_
        rintro rfl)
     | (with_reducible apply regD_opK
        · simp only [dstOk, Nat.reduceLT]
        · simp only [Nat.reduceAdd]; rfl
        intro k hk)
     | (with_reducible apply regW_opK
        · simp only [dstOk, Nat.reduceLT]
        · simp only [Nat.reduceAdd]; rfl
        intro k hk)
     | skip)
    simp only [RetW, bn, lkb, evb, opC, opP, fetchN, fetchP, fetchAll, fetchO, Prog.bind, Prog.wp, Prog.wp_bind, lk, nameP, nameAll, Value.oneCell', putSt, stepP, putP, reduceCtorEq, V.lin, V.linL, D.lin, isNil, binP, unP, BinOp.isShift, Prog.ofO, Nat.reduceAdd, Nat.reduceMul, Nat.reduceSub, Nat.reduceLT, Nat.reduceLeDiff, Nat.reduceEqDiff, ite_true, ite_false, fieldAddrP, fieldP, indexAddrP, loadP, storeP, boxP, allocP, cellsP, asVal, setSeg, outP, outT, cntT, TyK.field, TyK.agg, zeroRow, V.ren, V.renL, forall_eq_or_imp, forall_const, minmaxP, lenP, lenOf, lenStr, V.asInt, decide_true, decide_false, sliceP, boundP, makeSliceP, convertP, appendP, rowsOfP, ontoP, sizeFits, V.rowSize, TyK.src, resV, resV.go, resV.gol, retP, retOne, retAll, resTo, objsAre, Option.map_eq_map, Function.const_apply, Int.reduceNeg, Int.reduceToNat, ty2, ty41, cI, cB, cS, cL, shiftBin_shl, shiftBin_shr, intBin_quo, intBin_rem, Int.reduceLT, Int.reduceEq, not_false_eq_true, Int.not_lt, *]
    try (refine hk.use _ _ _ _ ?_; clear hk k))
 | fail)
  all_goals (try rfl)
  all_goals (try (simp; done))
  all_goals (try (simp_all; done))
def spec_l17Doms.l1 : Nat → (List Int) → (List (List Int)) → Int → Int → Option ((List Int) × (List (List Int)) × Int)
  | 0, _, _, _, _ => none
  | k + 1, a1, a2, a3, a4 => cond ((decide (a4 < ((a1.length : Int))))) ((idx a1 a4).bind fun m3 => cond ((decide (m3 ≥ 0))) ((spec_l08Bit a4).bind fun t4 => spec_l17Doms.l1 k a1 a2 ((ior .i64 a3 t4)) ((IntKind.i64.wrap (a4 + 1)))) (spec_l17Doms.l1 k a1 a2 a3 ((IntKind.i64.wrap (a4 + 1))))) (some (a1, a2, a3))
def spec_l17Doms.l2 : Nat → (List Int) → (List (List Int)) → (List Int) → Int → Int → Option ((List Int) × (List (List Int)) × (List Int) × Int)
  | 0, _, _, _, _, _ => none
  | k + 1, a1, a2, a3, a4, a5 => cond ((decide (a5 < ((a1.length : Int))))) ((idx a1 a5).bind fun m5 => cond ((decide (m5 ≥ 0))) ((idx a3 a5).bind fun m6 => spec_l17Doms.l2 k a1 a2 ((a3.set a5.toNat a4)) a4 ((IntKind.i64.wrap (a5 + 1)))) (spec_l17Doms.l2 k a1 a2 a3 a4 ((IntKind.i64.wrap (a5 + 1))))) (some (a1, a2, a3, a4))
def spec_l17Doms.l6 : Nat → (List Int) → (List (List Int)) → (List Int) → Int → Bool → Int → Int → Int → Option ((List Int) × (List (List Int)) × (List Int) × Int × Bool × Int × Int)
  | 0, _, _, _, _, _, _, _, _ => none
  | k + 1, a1, a2, a3, a4, a5, a6, a7, a8 => (idx a2 a6).bind fun m9 => cond ((decide (a8 < ((m9.length : Int))))) ((idx m9 a8).bind fun m10 => (idx a3 m10).bind fun m11 => spec_l17Doms.l6 k a1 ((a2.set a6.toNat m9)) a3 a4 a5 a6 ((iand .i64 a7 m11)) ((IntKind.i64.wrap (a8 + 1)))) (some (a1, (a2.set a6.toNat m9), a3, a4, a5, a6, a7))
def spec_l17Doms.a5 (k : Nat) (a1 : (List Int)) (a2 : (List (List Int))) (a3 : (List Int)) (a4 : Int) (a5 : Bool) (a6 : Int) : Option ((List Int) × (List (List Int)) × (List Int) × Int × Bool × Int) :=
  (idx a1 a6).bind fun m8 => cond ((decide (m8 < 0))) (some (a1, a2, a3, a4, a5, a6)) ((spec_l17Doms.l6 k a1 a2 a3 a4 a5 a6 a4 0).bind fun o6 => (spec_l08Bit o6.2.2.2.2.2.1).bind fun t12 => cond o6.2.2.2.2.1 ((idx o6.2.2.1 o6.2.2.2.2.2.1).bind fun m13 => some (o6.1, o6.2.1, (o6.2.2.1.set o6.2.2.2.2.2.1.toNat ((ior .i64 o6.2.2.2.2.2.2 t12))), o6.2.2.2.1, true, o6.2.2.2.2.2.1)) ((idx o6.2.2.1 o6.2.2.2.2.2.1).bind fun m14 => some (o6.1, o6.2.1, (o6.2.2.1.set o6.2.2.2.2.2.1.toNat ((ior .i64 o6.2.2.2.2.2.2 t12))), o6.2.2.2.1, (((ior .i64 o6.2.2.2.2.2.2 t12)) != m14), o6.2.2.2.2.2.1)))
def spec_l17Doms.l4 : Nat → (List Int) → (List (List Int)) → (List Int) → Int → Bool → Int → Option ((List Int) × (List (List Int)) × (List Int) × Int × Bool)
  | 0, _, _, _, _, _, _ => none
  | k + 1, a1, a2, a3, a4, a5, a6 => cond ((decide (a6 < ((a1.length : Int))))) ((spec_l17Doms.a5 k a1 a2 a3 a4 a5 a6).bind fun o5 => spec_l17Doms.l4 k o5.1 o5.2.1 o5.2.2.1 o5.2.2.2.1 o5.2.2.2.2.1 ((IntKind.i64.wrap (o5.2.2.2.2.2 + 1)))) (some (a1, a2, a3, a4, a5))
def spec_l17Doms.l3 : Nat → (List Int) → (List (List Int)) → (List Int) → Int → Bool → Option ((List Int))
  | 0, _, _, _, _, _ => none
  | k + 1, a1, a2, a3, a4, a5 => cond a5 ((spec_l17Doms.l4 k a1 a2 a3 a4 false 1).bind fun o4 => spec_l17Doms.l3 k o4.1 o4.2.1 o4.2.2.1 o4.2.2.2.1 o4.2.2.2.2) (some (a3))
def spec_l17Doms (k : Nat) (p0 : GProgram) (p1 : Int) : Option ((List Int)) :=
  (spec_l04Heights k p0 p1).bind fun t1 => (spec_l17Preds k p0 p1).bind fun t2 => (spec_l17Doms.l1 k t1.1 t2 0 0).bind fun o1 => gd (0 ≤ (o1.1.length : Int) ∧ ((o1.1.length : Int)) * 8 ≤ 35184372088832 ∧ (o1.1.length : Int) ≤ 35184372088832) ((spec_l17Doms.l2 k o1.1 o1.2.1 ((List.replicate o1.1.length 0)) o1.2.2 0).bind fun o2 => (idx o2.2.2.1 0).bind fun m7 => (spec_l17Doms.l3 k o2.1 o2.2.1 ((o2.2.2.1.set 0 1)) o2.2.2.2 true).bind fun o3 => some o3)
theorem c_spec_l17Doms {k : Nat} {p0 : GProgram} {p1 : Int} {r : (List Int)} (h : spec_l17Doms k p0 p1 = some r) : Con Try.prog 47 [.agg [.d (.row .bor 3 (Rw (GFunc.cells .bor) p0.funcs))], V.int p1] [] (.d (.row .own 1 (Rw (cI .i64) r))) [] := by
  refine con_of_sw Try.func47 rfl Try.call47 (by simp [Try.ntmps47]) (by simp [V.inNs, V.inN]) (by simp [C.inN, V.inNss, V.inNs, V.inN, inNss_dd]) (by simp [V.inNs, V.inN]) (by simp [C.inN, V.inNss, V.inNs, V.inN, inNss_dd]) rfl ?_
  rw [Try.ntmps47, Try.results47]
  unfold spec_l17Doms at h
  replace h := Yes.mk h
  simp only [entryS, entryO, Nat.reduceAdd, List.length_nil, List.length_cons]
  repeat' (first
 | (with_reducible (first | refine sw_reg ?_ | refine sw_ret ?_ | refine sw_skip ?_ | refine sw_block ?_ | refine sw_exit ?_ | refine seqQ_normal ?_ | refine blockQ_normal ?_ | refine blockQ_ret ?_ | refine blockQ_this ?_ | refine blockQ_other (by decide) ?_ | refine regW_nil ?_ | refine sw_draw mixed ?_ | refine retQ_ret ?_ | refine retQ_normal ?_))
 | (with_reducible refine regD_nil ?_
    refine ⟨by kernel_rfl, ?_⟩)
 | (revert h; (first | ((with_reducible refine idx_elim ?_); intro m hm1 hm2 hm3 h; (try (simp only [Int.reduceToNat] at hm3)); (try (revert hm3; (with_reducible apply same_elim); (focus (with_reducible assumption)); rintro rfl)); (try (simp only [List.length_set, List.length_cons, List.length_nil, List.length_replicate, Nat.reduceAdd, Int.cast_ofNat_Int, Nat.zero_add, List.length_append] at hm2))) | (with_reducible refine sidx_elim ?_; intro m hm1 hm3 h) | (with_reducible refine gd_elim ?_; intro hg h; try (have hg2 := hg.2; have hg := hg.1; (try (simp only [Nat.reduceLeDiff] at hg2)); (try (revert hg2; (with_reducible refine toNat_elim hg ?_); intro hg2 hg4)); try (have hg3 := hg2.2; have hg2 := hg2.1; (try (simp only [Nat.reduceLeDiff] at hg3))))) | (with_reducible refine condt_elim ?_ ?_; (focus (with_reducible assumption)); intro h) | (with_reducible refine condf_elim ?_ ?_; (focus (with_reducible assumption)); intro h)))
 | ((first | with_reducible refine seqQ_ret (K := (fun st1 n1 => Gh st1 n1 (NextS _ 60000000 _ _ _ _))) ?_ | with_reducible refine seqQ_exit (K := (fun st1 n1 => Gh st1 n1 (NextS _ 60000000 _ _ _ _))) ?_)
    obtain rfl := h.get
    have h := hK6
    (try (simp only [Sum.elim_inl, Sum.elim_inr] at h)))
 | ((first | with_reducible refine seqQ_ret (K := (fun st1 n1 => Gh st1 n1 (MeetA _ 50000000 _ _))) ?_ | with_reducible refine seqQ_exit (K := (fun st1 n1 => Gh st1 n1 (MeetA _ 50000000 _ _))) ?_)
    obtain rfl := h.get
    have h := hK5
    (try (simp only [Sum.elim_inl, Sum.elim_inr] at h)))
 | ((first | with_reducible refine seqQ_ret (K := (fun st1 n1 => Gh st1 n1 (NextS _ 40000000 _ _ _ _))) ?_ | with_reducible refine seqQ_exit (K := (fun st1 n1 => Gh st1 n1 (NextS _ 40000000 _ _ _ _))) ?_)
    obtain rfl := h.get
    have h := hK4
    (try (simp only [Sum.elim_inl, Sum.elim_inr] at h)))
 | ((first | with_reducible refine seqQ_ret (K := (fun st1 n1 => Gh st1 n1 (NextS _ 30000000 _ _ _ _))) ?_ | with_reducible refine seqQ_exit (K := (fun st1 n1 => Gh st1 n1 (NextS _ 30000000 _ _ _ _))) ?_)
    obtain rfl := h.get
    have h := hK3
    (try (simp only [Sum.elim_inl, Sum.elim_inr] at h)))
 | ((first | with_reducible refine seqQ_ret (K := (fun st1 n1 => Gh st1 n1 (NextS _ 20000000 _ _ _ _))) ?_ | with_reducible refine seqQ_exit (K := (fun st1 n1 => Gh st1 n1 (NextS _ 20000000 _ _ _ _))) ?_)
    obtain rfl := h.get
    have h := hK2
    (try (simp only [Sum.elim_inl, Sum.elim_inr] at h)))
 | ((first | with_reducible refine seqQ_ret (K := (fun st1 n1 => Gh st1 n1 (NextS _ 10000000 _ _ _ _))) ?_ | with_reducible refine seqQ_exit (K := (fun st1 n1 => Gh st1 n1 (NextS _ 10000000 _ _ _ _))) ?_)
    obtain rfl := h.get
    have h := hK1
    (try (simp only [Sum.elim_inl, Sum.elim_inr] at h)))
 | (with_reducible refine here_loop (c := (.seq (.seq (.region 25 _ _) _) _)) ?_
    skip
    revert h
    with_reducible refine bind_elimY ?_
    intro o6 h hK6
    refine sw_gh ?_
    (try (apply gh_resRow 832; (focus (simp only [putSt, lk, lkb, reduceCtorEq, Nat.reduceEqDiff]; try rfl)); (focus (first | (simp only [Rw_length, List.length_set]; omega) | (simp [Rw_length]; omega))); simp only [rxb, Nat.reduceAdd, Nat.reduceLeDiff, resSlotP, nameSlotP, Prog.wp, Prog.wp_bind, Prog.bind, Prog.ofO, putSt, lk, lkb, reduceCtorEq, Nat.reduceEqDiff, resV, resV.go, resV.gol, nameAll, nameP, outP, outT, cntT, V.lin, D.lin, *, mmb, GI2_Dset, GFunc_Dset, GProgram_Dset, GI3_Dset, LcIi64_Dset]))
    refine gh_sw ?_
    refine sw_loop (ι := Nat × (List Int) × (List (List Int)) × (List Int) × Int × Bool × Int × Int × Int) 60000000 (by decide) (fun x : Nat × (List Int) × (List (List Int)) × (List Int) × Int × Bool × Int × Int × Int => [(.s 5, some (.v (.sl 256 1 0 x.2.1.length))), (.s 7, some (.v (.sl 832 1 0 x.2.2.1.length))), (.s 8, some (.v (V.int x.2.2.2.2.1))), (.s 10, some (.v (.sl 10000448 1 0 x.2.2.2.1.length))), (.s 12, some (.v (V.bool x.2.2.2.2.2.1))), (.s 13, some (.v (V.int x.2.2.2.2.2.2.1))), (.s 14, some (.v (V.int x.2.2.2.2.2.2.2.1))), (.s 15, some (.v (V.int x.2.2.2.2.2.2.2.2))), (.r 256, some (.o 1 (dd (Rw (cI .i64) x.2.1)))), (.r 832, some (.o 1 (dd (Rw (cL .own 1 (cI .i64)) x.2.2.1)))), (.r 10000448, some (.o 1 (dd (Rw (cI .i64) x.2.2.2.1))))]) (fun x => x.1) (fun x => Yes (spec_l17Doms.l6 x.1 x.2.1 x.2.2.1 x.2.2.2.1 x.2.2.2.2.1 x.2.2.2.2.2.1 x.2.2.2.2.2.2.1 x.2.2.2.2.2.2.2.1 x.2.2.2.2.2.2.2.2) o6) (_, _, _, _, _, _, _, _, _) ?_ h ?_ ?_
    · exact (by simp [slNL, C.inN, V.inN, V.inNs, V.inNss, inNss_dd, inNs_map_d])
    · simp only [SubL, putSt, lk, lkb, reduceCtorEq, Nat.reduceEqDiff, List.length_set, List.length_replicate]; repeat' (first | apply And.intro | rfl | trivial | (simp only [*]; done))
    rintro ⟨_ | k, a1, a2, a3, a4, a5, a6, a7, a8⟩ h
    · simp only [spec_l17Doms.l6] at h; exact h.none
    simp only [spec_l17Doms.l6] at h
)
 | (with_reducible refine here_next (N0 := 60000000) ?_
    skip
    (try (apply gh_resRow 832; (focus (simp only [putSt, lk, lkb, reduceCtorEq, Nat.reduceEqDiff]; try rfl)); (focus (first | (simp only [Rw_length, List.length_set]; omega) | (simp [Rw_length]; omega))); simp only [rxb, Nat.reduceAdd, Nat.reduceLeDiff, resSlotP, nameSlotP, Prog.wp, Prog.wp_bind, Prog.bind, Prog.ofO, putSt, lk, lkb, reduceCtorEq, Nat.reduceEqDiff, resV, resV.go, resV.gol, nameAll, nameP, outP, outT, cntT, V.lin, D.lin, *, mmb, GI2_Dset, GFunc_Dset, GProgram_Dset, GI3_Dset, LcIi64_Dset]))
    refine nexts_to (_, _, _, _, _, _, _, _, _) (by decide) ?_ (Nat.lt_succ_self _) h ?_
    · exact (by simp [slNL, C.inN, V.inN, V.inNs, V.inNss, inNss_dd, inNs_map_d])
    · simp only [SubL, putSt, lk, lkb, reduceCtorEq, Nat.reduceEqDiff, List.length_set, List.length_replicate]; repeat' (first | apply And.intro | rfl | trivial | (simp only [*]; done)))
 | (with_reducible refine here_join (a := (.block 7 _)) (b := (.region 21 _ _)) ?_
    skip
    revert h
    with_reducible refine bind_elimY ?_
    intro o5 h hK5
    unfold spec_l17Doms.a5 at h
    refine sw_join (ι := (List Int) × (List (List Int)) × (List Int) × Int × Bool × Int) 50000000 (fun x : (List Int) × (List (List Int)) × (List Int) × Int × Bool × Int => [(.s 5, some (.v (.sl 256 1 0 x.1.length))), (.s 7, some (.v (.sl 832 1 0 x.2.1.length))), (.s 8, some (.v (V.int x.2.2.2.1))), (.s 10, some (.v (.sl 10000448 1 0 x.2.2.1.length))), (.s 12, some (.v (V.bool x.2.2.2.2.1))), (.s 13, some (.v (V.int x.2.2.2.2.2))), (.r 256, some (.o 1 (dd (Rw (cI .i64) x.1)))), (.r 832, some (.o 1 (dd (Rw (cL .own 1 (cI .i64)) x.2.1)))), (.r 10000448, some (.o 1 (dd (Rw (cI .i64) x.2.2.1))))]) (fun x => Yes (some (x)) o5) ?_ ?_
    rotate_left
    rintro ⟨b1, b2, b3, b4, b5, b6⟩ h
    obtain rfl := h.get
    have h := hK5
    (try (simp only [Sum.elim_inl, Sum.elim_inr] at h))
    refine sw_gh ?_
    refine gh_sw ?_
    skip)
 | (with_reducible refine here_meet (N0 := 50000000) ?_
    skip
    (try (apply gh_resRow 832; (focus (simp only [putSt, lk, lkb, reduceCtorEq, Nat.reduceEqDiff]; try rfl)); (focus (first | (simp only [Rw_length, List.length_set]; omega) | (simp [Rw_length]; omega))); simp only [rxb, Nat.reduceAdd, Nat.reduceLeDiff, resSlotP, nameSlotP, Prog.wp, Prog.wp_bind, Prog.bind, Prog.ofO, putSt, lk, lkb, reduceCtorEq, Nat.reduceEqDiff, resV, resV.go, resV.gol, nameAll, nameP, outP, outT, cntT, V.lin, D.lin, *, mmb, GI2_Dset, GFunc_Dset, GProgram_Dset, GI3_Dset, LcIi64_Dset]))
    refine meet_to (_, _, _, _, _, _) (by decide) ?_ h ?_
    · exact (by simp [slNL, C.inN, V.inN, V.inNs, V.inNss, inNss_dd, inNs_map_d])
    · simp only [SubL, putSt, lk, lkb, reduceCtorEq, Nat.reduceEqDiff, List.length_set, List.length_replicate]; repeat' (first | apply And.intro | rfl | trivial | (simp only [*]; done)))
 | (with_reducible refine here_loop (c := (.seq (.seq (.region 20 _ _) _) _)) ?_
    skip
    revert h
    with_reducible refine bind_elimY ?_
    intro o4 h hK4
    refine sw_gh ?_
    (try (apply gh_resRow 832; (focus (simp only [putSt, lk, lkb, reduceCtorEq, Nat.reduceEqDiff]; try rfl)); (focus (first | (simp only [Rw_length, List.length_set]; omega) | (simp [Rw_length]; omega))); simp only [rxb, Nat.reduceAdd, Nat.reduceLeDiff, resSlotP, nameSlotP, Prog.wp, Prog.wp_bind, Prog.bind, Prog.ofO, putSt, lk, lkb, reduceCtorEq, Nat.reduceEqDiff, resV, resV.go, resV.gol, nameAll, nameP, outP, outT, cntT, V.lin, D.lin, *, mmb, GI2_Dset, GFunc_Dset, GProgram_Dset, GI3_Dset, LcIi64_Dset]))
    refine gh_sw ?_
    refine sw_loop (ι := Nat × (List Int) × (List (List Int)) × (List Int) × Int × Bool × Int) 40000000 (by decide) (fun x : Nat × (List Int) × (List (List Int)) × (List Int) × Int × Bool × Int => [(.s 5, some (.v (.sl 256 1 0 x.2.1.length))), (.s 7, some (.v (.sl 832 1 0 x.2.2.1.length))), (.s 8, some (.v (V.int x.2.2.2.2.1))), (.s 10, some (.v (.sl 10000448 1 0 x.2.2.2.1.length))), (.s 12, some (.v (V.bool x.2.2.2.2.2.1))), (.s 13, some (.v (V.int x.2.2.2.2.2.2))), (.r 256, some (.o 1 (dd (Rw (cI .i64) x.2.1)))), (.r 832, some (.o 1 (dd (Rw (cL .own 1 (cI .i64)) x.2.2.1)))), (.r 10000448, some (.o 1 (dd (Rw (cI .i64) x.2.2.2.1))))]) (fun x => x.1) (fun x => Yes (spec_l17Doms.l4 x.1 x.2.1 x.2.2.1 x.2.2.2.1 x.2.2.2.2.1 x.2.2.2.2.2.1 x.2.2.2.2.2.2) o4) (_, _, _, _, _, _, _) ?_ h ?_ ?_
    · exact (by simp [slNL, C.inN, V.inN, V.inNs, V.inNss, inNss_dd, inNs_map_d])
    · simp only [SubL, putSt, lk, lkb, reduceCtorEq, Nat.reduceEqDiff, List.length_set, List.length_replicate]; repeat' (first | apply And.intro | rfl | trivial | (simp only [*]; done))
    rintro ⟨_ | k, a1, a2, a3, a4, a5, a6⟩ h
    · simp only [spec_l17Doms.l4] at h; exact h.none
    simp only [spec_l17Doms.l4] at h
)
 | (with_reducible refine here_next (N0 := 40000000) ?_
    skip
    (try (apply gh_resRow 832; (focus (simp only [putSt, lk, lkb, reduceCtorEq, Nat.reduceEqDiff]; try rfl)); (focus (first | (simp only [Rw_length, List.length_set]; omega) | (simp [Rw_length]; omega))); simp only [rxb, Nat.reduceAdd, Nat.reduceLeDiff, resSlotP, nameSlotP, Prog.wp, Prog.wp_bind, Prog.bind, Prog.ofO, putSt, lk, lkb, reduceCtorEq, Nat.reduceEqDiff, resV, resV.go, resV.gol, nameAll, nameP, outP, outT, cntT, V.lin, D.lin, *, mmb, GI2_Dset, GFunc_Dset, GProgram_Dset, GI3_Dset, LcIi64_Dset]))
    refine nexts_to (_, _, _, _, _, _, _) (by decide) ?_ (Nat.lt_succ_self _) h ?_
    · exact (by simp [slNL, C.inN, V.inN, V.inNs, V.inNss, inNss_dd, inNs_map_d])
    · simp only [SubL, putSt, lk, lkb, reduceCtorEq, Nat.reduceEqDiff, List.length_set, List.length_replicate]; repeat' (first | apply And.intro | rfl | trivial | (simp only [*]; done)))
 | (with_reducible refine here_loop (c := (.seq (.seq (.region 17 _ _) _) _)) ?_
    skip
    revert h
    with_reducible refine bind_elimY ?_
    intro o3 h hK3
    refine sw_gh ?_
    (try (apply gh_resRow 832; (focus (simp only [putSt, lk, lkb, reduceCtorEq, Nat.reduceEqDiff]; try rfl)); (focus (first | (simp only [Rw_length, List.length_set]; omega) | (simp [Rw_length]; omega))); simp only [rxb, Nat.reduceAdd, Nat.reduceLeDiff, resSlotP, nameSlotP, Prog.wp, Prog.wp_bind, Prog.bind, Prog.ofO, putSt, lk, lkb, reduceCtorEq, Nat.reduceEqDiff, resV, resV.go, resV.gol, nameAll, nameP, outP, outT, cntT, V.lin, D.lin, *, mmb, GI2_Dset, GFunc_Dset, GProgram_Dset, GI3_Dset, LcIi64_Dset]))
    refine gh_sw ?_
    refine sw_loop (ι := Nat × (List Int) × (List (List Int)) × (List Int) × Int × Bool) 30000000 (by decide) (fun x : Nat × (List Int) × (List (List Int)) × (List Int) × Int × Bool => [(.s 5, some (.v (.sl 256 1 0 x.2.1.length))), (.s 7, some (.v (.sl 832 1 0 x.2.2.1.length))), (.s 8, some (.v (V.int x.2.2.2.2.1))), (.s 10, some (.v (.sl 10000448 1 0 x.2.2.2.1.length))), (.s 12, some (.v (V.bool x.2.2.2.2.2))), (.r 256, some (.o 1 (dd (Rw (cI .i64) x.2.1)))), (.r 832, some (.o 1 (dd (Rw (cL .own 1 (cI .i64)) x.2.2.1)))), (.r 10000448, some (.o 1 (dd (Rw (cI .i64) x.2.2.2.1))))]) (fun x => x.1) (fun x => Yes (spec_l17Doms.l3 x.1 x.2.1 x.2.2.1 x.2.2.2.1 x.2.2.2.2.1 x.2.2.2.2.2) o3) (_, _, _, _, _, _) ?_ h ?_ ?_
    · exact (by simp [slNL, C.inN, V.inN, V.inNs, V.inNss, inNss_dd, inNs_map_d])
    · simp only [SubL, putSt, lk, lkb, reduceCtorEq, Nat.reduceEqDiff, List.length_set, List.length_replicate]; repeat' (first | apply And.intro | rfl | trivial | (simp only [*]; done))
    rintro ⟨_ | k, a1, a2, a3, a4, a5⟩ h
    · simp only [spec_l17Doms.l3] at h; exact h.none
    simp only [spec_l17Doms.l3] at h
)
 | (with_reducible refine here_next (N0 := 30000000) ?_
    skip
    (try (apply gh_resRow 832; (focus (simp only [putSt, lk, lkb, reduceCtorEq, Nat.reduceEqDiff]; try rfl)); (focus (first | (simp only [Rw_length, List.length_set]; omega) | (simp [Rw_length]; omega))); simp only [rxb, Nat.reduceAdd, Nat.reduceLeDiff, resSlotP, nameSlotP, Prog.wp, Prog.wp_bind, Prog.bind, Prog.ofO, putSt, lk, lkb, reduceCtorEq, Nat.reduceEqDiff, resV, resV.go, resV.gol, nameAll, nameP, outP, outT, cntT, V.lin, D.lin, *, mmb, GI2_Dset, GFunc_Dset, GProgram_Dset, GI3_Dset, LcIi64_Dset]))
    refine nexts_to (_, _, _, _, _, _) (by decide) ?_ (Nat.lt_succ_self _) h ?_
    · exact (by simp [slNL, C.inN, V.inN, V.inNs, V.inNss, inNss_dd, inNs_map_d])
    · simp only [SubL, putSt, lk, lkb, reduceCtorEq, Nat.reduceEqDiff, List.length_set, List.length_replicate]; repeat' (first | apply And.intro | rfl | trivial | (simp only [*]; done)))
 | (with_reducible refine here_loop (c := (.seq (.seq (.region 11 _ _) _) _)) ?_
    skip
    revert h
    with_reducible refine bind_elimY ?_
    intro o2 h hK2
    refine sw_gh ?_
    (try (apply gh_resRow 832; (focus (simp only [putSt, lk, lkb, reduceCtorEq, Nat.reduceEqDiff]; try rfl)); (focus (first | (simp only [Rw_length, List.length_set]; omega) | (simp [Rw_length]; omega))); simp only [rxb, Nat.reduceAdd, Nat.reduceLeDiff, resSlotP, nameSlotP, Prog.wp, Prog.wp_bind, Prog.bind, Prog.ofO, putSt, lk, lkb, reduceCtorEq, Nat.reduceEqDiff, resV, resV.go, resV.gol, nameAll, nameP, outP, outT, cntT, V.lin, D.lin, *, mmb, GI2_Dset, GFunc_Dset, GProgram_Dset, GI3_Dset, LcIi64_Dset]))
    refine gh_sw ?_
    refine sw_loop (ι := Nat × (List Int) × (List (List Int)) × (List Int) × Int × Int) 20000000 (by decide) (fun x : Nat × (List Int) × (List (List Int)) × (List Int) × Int × Int => [(.s 5, some (.v (.sl 256 1 0 x.2.1.length))), (.s 7, some (.v (.sl 832 1 0 x.2.2.1.length))), (.s 8, some (.v (V.int x.2.2.2.2.1))), (.s 10, some (.v (.sl 10000448 1 0 x.2.2.2.1.length))), (.s 11, some (.v (V.int x.2.2.2.2.2))), (.r 256, some (.o 1 (dd (Rw (cI .i64) x.2.1)))), (.r 832, some (.o 1 (dd (Rw (cL .own 1 (cI .i64)) x.2.2.1)))), (.r 10000448, some (.o 1 (dd (Rw (cI .i64) x.2.2.2.1))))]) (fun x => x.1) (fun x => Yes (spec_l17Doms.l2 x.1 x.2.1 x.2.2.1 x.2.2.2.1 x.2.2.2.2.1 x.2.2.2.2.2) o2) (_, _, _, _, _, _) ?_ h ?_ ?_
    · exact (by simp [slNL, C.inN, V.inN, V.inNs, V.inNss, inNss_dd, inNs_map_d])
    · simp only [SubL, putSt, lk, lkb, reduceCtorEq, Nat.reduceEqDiff, List.length_set, List.length_replicate]; repeat' (first | apply And.intro | rfl | trivial | (simp only [*]; done))
    rintro ⟨_ | k, a1, a2, a3, a4, a5⟩ h
    · simp only [spec_l17Doms.l2] at h; exact h.none
    simp only [spec_l17Doms.l2] at h
)
 | (with_reducible refine here_next (N0 := 20000000) ?_
    skip
    (try (apply gh_resRow 832; (focus (simp only [putSt, lk, lkb, reduceCtorEq, Nat.reduceEqDiff]; try rfl)); (focus (first | (simp only [Rw_length, List.length_set]; omega) | (simp [Rw_length]; omega))); simp only [rxb, Nat.reduceAdd, Nat.reduceLeDiff, resSlotP, nameSlotP, Prog.wp, Prog.wp_bind, Prog.bind, Prog.ofO, putSt, lk, lkb, reduceCtorEq, Nat.reduceEqDiff, resV, resV.go, resV.gol, nameAll, nameP, outP, outT, cntT, V.lin, D.lin, *, mmb, GI2_Dset, GFunc_Dset, GProgram_Dset, GI3_Dset, LcIi64_Dset]))
    refine nexts_to (_, _, _, _, _, _) (by decide) ?_ (Nat.lt_succ_self _) h ?_
    · exact (by simp [slNL, C.inN, V.inN, V.inNs, V.inNss, inNss_dd, inNs_map_d])
    · simp only [SubL, putSt, lk, lkb, reduceCtorEq, Nat.reduceEqDiff, List.length_set, List.length_replicate]; repeat' (first | apply And.intro | rfl | trivial | (simp only [*]; done)))
 | (with_reducible refine here_loop (c := (.seq (.seq (.region 5 _ _) _) _)) ?_
    skip
    revert h
    with_reducible refine bind_elimY ?_
    intro o1 h hK1
    refine sw_gh ?_
    (try (apply gh_resRow 832; (focus (simp only [putSt, lk, lkb, reduceCtorEq, Nat.reduceEqDiff]; try rfl)); (focus (first | (simp only [Rw_length, List.length_set]; omega) | (simp [Rw_length]; omega))); simp only [rxb, Nat.reduceAdd, Nat.reduceLeDiff, resSlotP, nameSlotP, Prog.wp, Prog.wp_bind, Prog.bind, Prog.ofO, putSt, lk, lkb, reduceCtorEq, Nat.reduceEqDiff, resV, resV.go, resV.gol, nameAll, nameP, outP, outT, cntT, V.lin, D.lin, *, mmb, GI2_Dset, GFunc_Dset, GProgram_Dset, GI3_Dset, LcIi64_Dset]))
    refine gh_sw ?_
    refine sw_loop (ι := Nat × (List Int) × (List (List Int)) × Int × Int) 10000000 (by decide) (fun x : Nat × (List Int) × (List (List Int)) × Int × Int => [(.s 5, some (.v (.sl 256 1 0 x.2.1.length))), (.s 7, some (.v (.sl 832 1 0 x.2.2.1.length))), (.s 8, some (.v (V.int x.2.2.2.1))), (.s 9, some (.v (V.int x.2.2.2.2))), (.r 256, some (.o 1 (dd (Rw (cI .i64) x.2.1)))), (.r 832, some (.o 1 (dd (Rw (cL .own 1 (cI .i64)) x.2.2.1))))]) (fun x => x.1) (fun x => Yes (spec_l17Doms.l1 x.1 x.2.1 x.2.2.1 x.2.2.2.1 x.2.2.2.2) o1) (_, _, _, _, _) ?_ h ?_ ?_
    · exact (by simp [slNL, C.inN, V.inN, V.inNs, V.inNss, inNss_dd, inNs_map_d])
    · simp only [SubL, putSt, lk, lkb, reduceCtorEq, Nat.reduceEqDiff, List.length_set, List.length_replicate]; repeat' (first | apply And.intro | rfl | trivial | (simp only [*]; done))
    rintro ⟨_ | k, a1, a2, a3, a4⟩ h
    · simp only [spec_l17Doms.l1] at h; exact h.none
    simp only [spec_l17Doms.l1] at h
)
 | (with_reducible refine here_next (N0 := 10000000) ?_
    skip
    (try (apply gh_resRow 832; (focus (simp only [putSt, lk, lkb, reduceCtorEq, Nat.reduceEqDiff]; try rfl)); (focus (first | (simp only [Rw_length, List.length_set]; omega) | (simp [Rw_length]; omega))); simp only [rxb, Nat.reduceAdd, Nat.reduceLeDiff, resSlotP, nameSlotP, Prog.wp, Prog.wp_bind, Prog.bind, Prog.ofO, putSt, lk, lkb, reduceCtorEq, Nat.reduceEqDiff, resV, resV.go, resV.gol, nameAll, nameP, outP, outT, cntT, V.lin, D.lin, *, mmb, GI2_Dset, GFunc_Dset, GProgram_Dset, GI3_Dset, LcIi64_Dset]))
    refine nexts_to (_, _, _, _, _) (by decide) ?_ (Nat.lt_succ_self _) h ?_
    · exact (by simp [slNL, C.inN, V.inN, V.inNs, V.inNss, inNss_dd, inNs_map_d])
    · simp only [SubL, putSt, lk, lkb, reduceCtorEq, Nat.reduceEqDiff, List.length_set, List.length_replicate]; repeat' (first | apply And.intro | rfl | trivial | (simp only [*]; done)))
 | with_reducible refine sw_seq ?_
 | with_reducible refine seqQ_ret ?_
 | with_reducible refine seqQ_exit ?_
 | (with_reducible refine gh_nilRow 4 .own 1 ?_ ?_
    · simp only [putSt, lk, lkb, reduceCtorEq, Nat.reduceEqDiff]; done
    skip)
 | ((with_reducible refine wp_ite ?_ ?_)
    all_goals (intro hc; (try (simp only [Bool.not_eq_true, Bool.not_eq_false] at hc)); simp only [hc]))
 | (with_reducible apply regW_skip
    · simp only [dstOk, Nat.reduceLT]
    · rfl
    · simp only [putSt, lk, lkb, reduceCtorEq, Nat.reduceEqDiff]; done)
 | (with_reducible apply regW_yesN
    · simp only [dstOk, Nat.reduceLT]
    · rfl
    · simp only [putSt, lk, lkb, reduceCtorEq, Nat.reduceEqDiff]; done)
 | (with_reducible apply regW_no
    · simp only [dstOk, Nat.reduceLT]
    · rfl
    · simp only [putSt, lk, lkb, reduceCtorEq, Nat.reduceEqDiff, Bool.not_true, Bool.not_false]; done)
 | (with_reducible apply regW_guardN
    · simp only [dstOk, Nat.reduceLT]
    · rfl
    · simp only [putSt, lk, lkb, reduceCtorEq, Nat.reduceEqDiff]; rfl
    all_goals (intro hc; (try (simp only [Bool.not_true, Bool.not_false] at hc))))
 | (with_reducible apply sw_cond
    · simp only [putSt, lk, lkb, reduceCtorEq, Nat.reduceEqDiff]; rfl
    all_goals (intro hc; try (cases hc; done)))
 | ((first
     | ((with_reducible refine gh_ret ?_)
        revert h
        with_reducible refine some_elim ?_
        rintro rfl)
     | (with_reducible refine here_call ?_
        revert h
        with_reducible refine bind_elim ?_
        intro t ht h
        (first
          | (refine call_dataE (c_spec_l17Preds ht) ?_ rfl ?_
             · first | rfl | (simp; done))
          | (refine call_dataE (c_spec_l04Heights ht) ?_ rfl ?_
             · first | rfl | (simp; done))
          | (refine call_dataE (c_spec_l08Bit ht) ?_ rfl ?_
             · first | rfl | (simp; done))))
     | (with_reducible apply regD_opK
        · simp only [dstOk, Nat.reduceLT]
        · simp only [Nat.reduceAdd]; rfl
        intro k hk)
     | (with_reducible apply regW_opK
        · simp only [dstOk, Nat.reduceLT]
        · simp only [Nat.reduceAdd]; rfl
        intro k hk)
     | skip)
    simp only [RetW, bn, lkb, evb, opC, opP, fetchN, fetchP, fetchAll, fetchO, Prog.bind, Prog.wp, Prog.wp_bind, lk, nameP, nameAll, Value.oneCell', putSt, stepP, putP, reduceCtorEq, V.lin, V.linL, D.lin, isNil, binP, unP, BinOp.isShift, Prog.ofO, Nat.reduceAdd, Nat.reduceMul, Nat.reduceSub, Nat.reduceLT, Nat.reduceLeDiff, Nat.reduceEqDiff, ite_true, ite_false, fieldAddrP, fieldP, indexAddrP, loadP, storeP, boxP, allocP, cellsP, asVal, setSeg, outP, outT, cntT, TyK.field, TyK.agg, zeroRow, V.ren, V.renL, forall_eq_or_imp, forall_const, minmaxP, lenP, lenOf, lenStr, V.asInt, decide_true, decide_false, sliceP, boundP, makeSliceP, convertP, appendP, rowsOfP, ontoP, sizeFits, V.rowSize, TyK.src, resV, resV.go, resV.gol, retP, retOne, retAll, resTo, objsAre, Option.map_eq_map, Function.const_apply, Int.reduceNeg, Int.reduceToNat, ty2, ty3, ty26, ty28, ty30, ty53, ty63, ty65, ty77, ty107, GFunc.cells, GI2.cells, GI3.cells, GProgram.cells, cI, cB, cS, cL, GI2_e, GFunc_e, GProgram_e, GI3_e, LcIi64_e, nilEqP, ne_eq, not_false_eq_true, not_true_eq_false, *]
    try (refine hk.use _ _ _ _ ?_; clear hk k))
 | fail)
  all_goals (try rfl)
  all_goals (try (simp; done))
  all_goals (try (simp_all; done))
def spec_Doms (k : Nat) (p0 : GProgram) (p1 : Int) : Option ((List Int)) :=
  (spec_l04Is k p0 p1).bind fun t1 => cond ((!t1)) (some []) ((spec_l17Doms k p0 p1).bind fun t2 => some t2)
theorem c_spec_Doms {k : Nat} {p0 : GProgram} {p1 : Int} {r : (List Int)} (h : spec_Doms k p0 p1 = some r) : Con Try.prog 21 [.agg [.d (.row .bor 3 (Rw (GFunc.cells .bor) p0.funcs))], V.int p1] [] (.d (.row .own 1 (Rw (cI .i64) r))) [] := by
  refine con_of_sw Try.func21 rfl Try.call21 (by simp [Try.ntmps21]) (by simp [V.inNs, V.inN]) (by simp [C.inN, V.inNss, V.inNs, V.inN, inNss_dd]) (by simp [V.inNs, V.inN]) (by simp [C.inN, V.inNss, V.inNs, V.inN, inNss_dd]) rfl ?_
  rw [Try.ntmps21, Try.results21]
  unfold spec_Doms at h
  replace h := Yes.mk h
  simp only [entryS, entryO, Nat.reduceAdd, List.length_nil, List.length_cons]
  repeat' (first
 | (with_reducible (first | refine sw_reg ?_ | refine sw_ret ?_ | refine sw_skip ?_ | refine sw_block ?_ | refine sw_exit ?_ | refine seqQ_normal ?_ | refine blockQ_normal ?_ | refine blockQ_ret ?_ | refine blockQ_this ?_ | refine blockQ_other (by decide) ?_ | refine regW_nil ?_ | refine sw_draw mixed ?_ | refine retQ_ret ?_ | refine retQ_normal ?_))
 | (with_reducible refine regD_nil ?_
    refine ⟨by kernel_rfl, ?_⟩)
 | (revert h; (first | ((with_reducible refine idx_elim ?_); intro m hm1 hm2 hm3 h; (try (simp only [Int.reduceToNat] at hm3)); (try (revert hm3; (with_reducible apply same_elim); (focus (with_reducible assumption)); rintro rfl)); (try (simp only [List.length_set, List.length_cons, List.length_nil, List.length_replicate, Nat.reduceAdd, Int.cast_ofNat_Int, Nat.zero_add, List.length_append] at hm2))) | (with_reducible refine sidx_elim ?_; intro m hm1 hm3 h) | (with_reducible refine gd_elim ?_; intro hg h; try (have hg2 := hg.2; have hg := hg.1; (try (simp only [Nat.reduceLeDiff] at hg2)); (try (revert hg2; (with_reducible refine toNat_elim hg ?_); intro hg2 hg4)); try (have hg3 := hg2.2; have hg2 := hg2.1; (try (simp only [Nat.reduceLeDiff] at hg3))))) | (with_reducible refine condt_elim ?_ ?_; (focus (with_reducible assumption)); intro h) | (with_reducible refine condf_elim ?_ ?_; (focus (with_reducible assumption)); intro h)))
 | with_reducible refine sw_seq ?_
 | with_reducible refine seqQ_ret ?_
 | with_reducible refine seqQ_exit ?_
 | (with_reducible refine gh_nilRow 4 .own 1 ?_ ?_
    · simp only [putSt, lk, lkb, reduceCtorEq, Nat.reduceEqDiff]; done
    skip)
 | ((with_reducible refine wp_ite ?_ ?_)
    all_goals (intro hc; (try (simp only [Bool.not_eq_true, Bool.not_eq_false] at hc)); simp only [hc]))
 | (with_reducible apply regW_skip
    · simp only [dstOk, Nat.reduceLT]
    · rfl
    · simp only [putSt, lk, lkb, reduceCtorEq, Nat.reduceEqDiff]; done)
 | (with_reducible apply regW_yesN
    · simp only [dstOk, Nat.reduceLT]
    · rfl
    · simp only [putSt, lk, lkb, reduceCtorEq, Nat.reduceEqDiff]; done)
 | (with_reducible apply regW_no
    · simp only [dstOk, Nat.reduceLT]
    · rfl
    · simp only [putSt, lk, lkb, reduceCtorEq, Nat.reduceEqDiff, Bool.not_true, Bool.not_false]; done)
 | (with_reducible apply regW_guardN
    · simp only [dstOk, Nat.reduceLT]
    · rfl
    · simp only [putSt, lk, lkb, reduceCtorEq, Nat.reduceEqDiff]; rfl
    all_goals (intro hc; (try (simp only [Bool.not_true, Bool.not_false] at hc))))
 | (with_reducible apply sw_cond
    · simp only [putSt, lk, lkb, reduceCtorEq, Nat.reduceEqDiff]; rfl
    all_goals (intro hc; try (cases hc; done)))
 | ((first
     | ((with_reducible refine gh_ret ?_)
        revert h
        with_reducible refine some_elim ?_
        rintro rfl)
     | (with_reducible refine here_call ?_
        revert h
        with_reducible refine bind_elim ?_
        intro t ht h
        (first
          | (refine call_dataE (c_spec_l04Is ht) ?_ rfl ?_
             · first | rfl | (simp; done))
          | (refine call_dataE (c_spec_l17Doms ht) ?_ rfl ?_
             · first | rfl | (simp; done))))
     | (with_reducible apply regD_opK
        · simp only [dstOk, Nat.reduceLT]
        · simp only [Nat.reduceAdd]; rfl
        intro k hk)
     | (with_reducible apply regW_opK
        · simp only [dstOk, Nat.reduceLT]
        · simp only [Nat.reduceAdd]; rfl
        intro k hk)
     | skip)
    simp only [RetW, bn, lkb, evb, opC, opP, fetchN, fetchP, fetchAll, fetchO, Prog.bind, Prog.wp, Prog.wp_bind, lk, nameP, nameAll, Value.oneCell', putSt, stepP, putP, reduceCtorEq, V.lin, V.linL, D.lin, isNil, binP, unP, BinOp.isShift, Prog.ofO, Nat.reduceAdd, Nat.reduceMul, Nat.reduceSub, Nat.reduceLT, Nat.reduceLeDiff, Nat.reduceEqDiff, ite_true, ite_false, fieldAddrP, fieldP, indexAddrP, loadP, storeP, boxP, allocP, cellsP, asVal, setSeg, outP, outT, cntT, TyK.field, TyK.agg, zeroRow, V.ren, V.renL, forall_eq_or_imp, forall_const, minmaxP, lenP, lenOf, lenStr, V.asInt, decide_true, decide_false, sliceP, boundP, makeSliceP, convertP, appendP, rowsOfP, ontoP, sizeFits, V.rowSize, TyK.src, resV, resV.go, resV.gol, retP, retOne, retAll, resTo, objsAre, Option.map_eq_map, Function.const_apply, Int.reduceNeg, Int.reduceToNat, ty2, ty4, ty26, ty28, ty30, ty63, ty65, ty107, GFunc.cells, GI2.cells, GProgram.cells, cI, cB, cS, cL, GI2_e, GFunc_e, GProgram_e, LcIi64_e, buildP, buildSliceP, putParts, structPlaces, chunks, List.replicate, List.flatten_nil, List.flatten_cons, Option.bind_some, bb, GI2_b, GFunc_b, GProgram_b, LcIi64_b, nilEqP, ne_eq, not_false_eq_true, not_true_eq_false, *]
    try (refine hk.use _ _ _ _ ?_; clear hk k))
 | fail)
  all_goals (try rfl)
  all_goals (try (simp; done))
  all_goals (try (simp_all; done))
def impl_prog_doms.l1 : Nat → Gprog → Int → Int → Int → Int → Option (Gprog × Int × Int)
  | 0, _, _, _, _, _ => none
  | k + 1, a1, a2, a3, a4, a5 => cond ((decide (a5 < a4))) ((impl_prog_reached a1 a2 a5).bind fun t2 => cond t2 (gd (0 ≤ a5) (impl_prog_doms.l1 k a1 a2 ((ior .i64 a3 ((ishl .i64 1 a5)))) a4 ((IntKind.i64.wrap (a5 + 1))))) (impl_prog_doms.l1 k a1 a2 a3 a4 ((IntKind.i64.wrap (a5 + 1))))) (some (a1, a2, a3))
def impl_prog_doms.l2 : Nat → (List Int) → Gprog → Int → Int → Int → Int → Option ((List Int) × Gprog × Int × Int)
  | 0, _, _, _, _, _, _ => none
  | k + 1, a1, a2, a3, a4, a5, a6 => cond ((decide (a6 < a5))) (gd (0 ≤ a6) (cond ((((iand .i64 ((ishr .i64 a4 a6)) 1)) == 1)) ((idx a1 a6).bind fun m4 => impl_prog_doms.l2 k ((a1.set a6.toNat a4)) a2 a3 a4 a5 ((IntKind.i64.wrap (a6 + 1)))) (impl_prog_doms.l2 k a1 a2 a3 a4 a5 ((IntKind.i64.wrap (a6 + 1)))))) (some (a1, a2, a3, a4))
def impl_prog_doms.l6 : Nat → (List Int) → (List Int) → Gprog → Int → Int → Bool → Int → Int → Int → Int → Option ((List Int) × Gprog × Int × Int × Bool × Int × Int)
  | 0, _, _, _, _, _, _, _, _, _, _ => none
  | k + 1, a1, a2, a3, a4, a5, a6, a7, a8, a9, a10 => cond ((decide (a10 < a9))) ((idx a2 a10).bind fun m7 => (idx a1 m7).bind fun m8 => impl_prog_doms.l6 k a1 a2 a3 a4 a5 a6 a7 ((iand .i64 a8 m8)) a9 ((IntKind.i64.wrap (a10 + 1)))) (some (a1, a3, a4, a5, a6, a7, a8))
def impl_prog_doms.a5 (k : Nat) (a1 : (List Int)) (a2 : Gprog) (a3 : Int) (a4 : Int) (a5 : Bool) (a6 : Int) : Option ((List Int) × Gprog × Int × Int × Bool × Int) :=
  gd (0 ≤ a6) (cond ((((iand .i64 ((ishr .i64 a4 a6)) 1)) == 0)) (some (a1, a2, a3, a4, a5, a6)) ((impl_prog_preds k a2 a3 a6).bind fun t6 => (impl_prog_doms.l6 k a1 t6 a2 a3 a4 a5 a6 a4 ((t6.length : Int)) 0).bind fun o6 => gd (0 ≤ o6.2.2.2.2.2.1) (cond o6.2.2.2.2.1 ((idx o6.1 o6.2.2.2.2.2.1).bind fun m9 => some ((o6.1.set o6.2.2.2.2.2.1.toNat ((ior .i64 o6.2.2.2.2.2.2 ((ishl .i64 1 o6.2.2.2.2.2.1))))), o6.2.1, o6.2.2.1, o6.2.2.2.1, true, o6.2.2.2.2.2.1)) ((idx o6.1 o6.2.2.2.2.2.1).bind fun m10 => some ((o6.1.set o6.2.2.2.2.2.1.toNat ((ior .i64 o6.2.2.2.2.2.2 ((ishl .i64 1 o6.2.2.2.2.2.1))))), o6.2.1, o6.2.2.1, o6.2.2.2.1, (((ior .i64 o6.2.2.2.2.2.2 ((ishl .i64 1 o6.2.2.2.2.2.1)))) != m10), o6.2.2.2.2.2.1)))))
def impl_prog_doms.l4 : Nat → (List Int) → Gprog → Int → Int → Bool → Int → Option ((List Int) × Gprog × Int × Int × Bool)
  | 0, _, _, _, _, _, _ => none
  | k + 1, a1, a2, a3, a4, a5, a6 => cond ((decide (a6 < ((a1.length : Int))))) ((impl_prog_doms.a5 k a1 a2 a3 a4 a5 a6).bind fun o5 => impl_prog_doms.l4 k o5.1 o5.2.1 o5.2.2.1 o5.2.2.2.1 o5.2.2.2.2.1 ((IntKind.i64.wrap (o5.2.2.2.2.2 + 1)))) (some (a1, a2, a3, a4, a5))
def impl_prog_doms.l3 : Nat → (List Int) → Gprog → Int → Int → Bool → Option ((List Int))
  | 0, _, _, _, _, _ => none
  | k + 1, a1, a2, a3, a4, a5 => cond a5 ((impl_prog_doms.l4 k a1 a2 a3 a4 false 1).bind fun o4 => impl_prog_doms.l3 k o4.1 o4.2.1 o4.2.2.1 o4.2.2.2.1 o4.2.2.2.2) (some (a1))
def impl_prog_doms (k : Nat) (p0 : Gprog) (p1 : Int) : Option ((List Int)) :=
  (impl_prog_code p0 p1).bind fun t1 => (impl_prog_doms.l1 k p0 p1 0 ((t1.length : Int)) 0).bind fun o1 => (impl_prog_code o1.1 o1.2.1).bind fun t3 => gd (0 ≤ (t3.length : Int) ∧ ((t3.length : Int)) * 8 ≤ 35184372088832 ∧ (t3.length : Int) ≤ 35184372088832) ((impl_prog_doms.l2 k ((List.replicate t3.length 0)) o1.1 o1.2.1 o1.2.2 ((t3.length : Int)) 0).bind fun o2 => (idx o2.1 0).bind fun m5 => (impl_prog_doms.l3 k ((o2.1.set 0 1)) o2.2.1 o2.2.2.1 o2.2.2.2 true).bind fun o3 => some o3)
theorem c_impl_prog_doms {k : Nat} {p0 : Gprog} {p1 : Int} {r : (List Int)} (h : impl_prog_doms k p0 p1 = some r) : Con Try.prog 45 [.d (.ptr .bor [.row .bor 3 (Rw (GFunc.cells .bor) p0.program.funcs), .row .bor 1 (Rw (cL .bor 1 (cI .i64)) p0.h)]), V.int p1] [] (.d (.row .own 1 (Rw (cI .i64) r))) [] := by
  refine con_of_sw Try.func45 rfl Try.call45 (by simp [Try.ntmps45]) (by simp [V.inNs, V.inN]) (by simp [C.inN, V.inNss, V.inNs, V.inN, inNss_dd]) (by simp [V.inNs, V.inN]) (by simp [C.inN, V.inNss, V.inNs, V.inN, inNss_dd]) rfl ?_
  rw [Try.ntmps45, Try.results45]
  unfold impl_prog_doms at h
  replace h := Yes.mk h
  simp only [entryS, entryO, Nat.reduceAdd, List.length_nil, List.length_cons]
  repeat' (first
 | (with_reducible (first | refine sw_reg ?_ | refine sw_ret ?_ | refine sw_skip ?_ | refine sw_block ?_ | refine sw_exit ?_ | refine seqQ_normal ?_ | refine blockQ_normal ?_ | refine blockQ_ret ?_ | refine blockQ_this ?_ | refine blockQ_other (by decide) ?_ | refine regW_nil ?_ | refine sw_draw mixed ?_ | refine retQ_ret ?_ | refine retQ_normal ?_))
 | (with_reducible refine regD_nil ?_
    refine ⟨by kernel_rfl, ?_⟩)
 | (revert h; (first | ((with_reducible refine idx_elim ?_); intro m hm1 hm2 hm3 h; (try (simp only [Int.reduceToNat] at hm3)); (try (revert hm3; (with_reducible apply same_elim); (focus (with_reducible assumption)); rintro rfl)); (try (simp only [List.length_set, List.length_cons, List.length_nil, List.length_replicate, Nat.reduceAdd, Int.cast_ofNat_Int, Nat.zero_add, List.length_append] at hm2))) | (with_reducible refine sidx_elim ?_; intro m hm1 hm3 h) | (with_reducible refine gd_elim ?_; intro hg h; try (have hg2 := hg.2; have hg := hg.1; (try (simp only [Nat.reduceLeDiff] at hg2)); (try (revert hg2; (with_reducible refine toNat_elim hg ?_); intro hg2 hg4)); try (have hg3 := hg2.2; have hg2 := hg2.1; (try (simp only [Nat.reduceLeDiff] at hg3))))) | (with_reducible refine condt_elim ?_ ?_; (focus (with_reducible assumption)); intro h) | (with_reducible refine condf_elim ?_ ?_; (focus (with_reducible assumption)); intro h)))
 | ((first | with_reducible refine seqQ_ret (K := (fun st1 n1 => Gh st1 n1 (NextS _ 60000000 _ _ _ _))) ?_ | with_reducible refine seqQ_exit (K := (fun st1 n1 => Gh st1 n1 (NextS _ 60000000 _ _ _ _))) ?_)
    obtain rfl := h.get
    have h := hK6
    (try (simp only [Sum.elim_inl, Sum.elim_inr] at h)))
 | ((first | with_reducible refine seqQ_ret (K := (fun st1 n1 => Gh st1 n1 (MeetA _ 50000000 _ _))) ?_ | with_reducible refine seqQ_exit (K := (fun st1 n1 => Gh st1 n1 (MeetA _ 50000000 _ _))) ?_)
    obtain rfl := h.get
    have h := hK5
    (try (simp only [Sum.elim_inl, Sum.elim_inr] at h)))
 | ((first | with_reducible refine seqQ_ret (K := (fun st1 n1 => Gh st1 n1 (NextS _ 40000000 _ _ _ _))) ?_ | with_reducible refine seqQ_exit (K := (fun st1 n1 => Gh st1 n1 (NextS _ 40000000 _ _ _ _))) ?_)
    obtain rfl := h.get
    have h := hK4
    (try (simp only [Sum.elim_inl, Sum.elim_inr] at h)))
 | ((first | with_reducible refine seqQ_ret (K := (fun st1 n1 => Gh st1 n1 (NextS _ 30000000 _ _ _ _))) ?_ | with_reducible refine seqQ_exit (K := (fun st1 n1 => Gh st1 n1 (NextS _ 30000000 _ _ _ _))) ?_)
    obtain rfl := h.get
    have h := hK3
    (try (simp only [Sum.elim_inl, Sum.elim_inr] at h)))
 | ((first | with_reducible refine seqQ_ret (K := (fun st1 n1 => Gh st1 n1 (NextS _ 20000000 _ _ _ _))) ?_ | with_reducible refine seqQ_exit (K := (fun st1 n1 => Gh st1 n1 (NextS _ 20000000 _ _ _ _))) ?_)
    obtain rfl := h.get
    have h := hK2
    (try (simp only [Sum.elim_inl, Sum.elim_inr] at h)))
 | ((first | with_reducible refine seqQ_ret (K := (fun st1 n1 => Gh st1 n1 (NextS _ 10000000 _ _ _ _))) ?_ | with_reducible refine seqQ_exit (K := (fun st1 n1 => Gh st1 n1 (NextS _ 10000000 _ _ _ _))) ?_)
    obtain rfl := h.get
    have h := hK1
    (try (simp only [Sum.elim_inl, Sum.elim_inr] at h)))
 | (with_reducible refine here_loop (c := (.seq (.region 25 _ _) _)) ?_
    skip
    revert h
    with_reducible refine bind_elimY ?_
    intro o6 h hK6
    refine sw_loop (ι := Nat × (List Int) × (List Int) × Gprog × Int × Int × Bool × Int × Int × Int × Int) 60000000 (by decide) (fun x : Nat × (List Int) × (List Int) × Gprog × Int × Int × Bool × Int × Int × Int × Int => [(.s 0, some (.v (.d (.ptr .bor [.row .bor 3 (Rw (GFunc.cells .bor) x.2.2.2.1.program.funcs), .row .bor 1 (Rw (cL .bor 1 (cI .i64)) x.2.2.2.1.h)])))), (.s 1, some (.v (V.int x.2.2.2.2.1))), (.s 5, some (.v (V.int x.2.2.2.2.2.1))), (.s 7, some (.v (.sl 10000384 1 0 x.2.1.length))), (.s 9, some (.v (V.bool x.2.2.2.2.2.2.1))), (.s 10, some (.v (V.int x.2.2.2.2.2.2.2.1))), (.s 11, some (.v (V.int x.2.2.2.2.2.2.2.2.1))), (.s 68, some (.v (.sl 40000896 1 0 x.2.2.1.length))), (.s 69, some (.v (V.int x.2.2.2.2.2.2.2.2.2.1))), (.s 70, some (.v (V.int x.2.2.2.2.2.2.2.2.2.2))), (.r 10000384, some (.o 1 (dd (Rw (cI .i64) x.2.1)))), (.r 40000896, some (.o 1 (dd (Rw (cI .i64) x.2.2.1))))]) (fun x => x.1) (fun x => Yes (impl_prog_doms.l6 x.1 x.2.1 x.2.2.1 x.2.2.2.1 x.2.2.2.2.1 x.2.2.2.2.2.1 x.2.2.2.2.2.2.1 x.2.2.2.2.2.2.2.1 x.2.2.2.2.2.2.2.2.1 x.2.2.2.2.2.2.2.2.2.1 x.2.2.2.2.2.2.2.2.2.2) o6) (_, _, _, _, _, _, _, _, _, _, _) ?_ h ?_ ?_
    · exact (by simp [slNL, C.inN, V.inN, V.inNs, V.inNss, inNss_dd, inNs_map_d])
    · simp only [SubL, putSt, lk, lkb, reduceCtorEq, Nat.reduceEqDiff, List.length_set, List.length_replicate]; repeat' (first | apply And.intro | rfl | trivial | (simp only [*]; done))
    rintro ⟨_ | k, a1, a2, a3, a4, a5, a6, a7, a8, a9, a10⟩ h
    · simp only [impl_prog_doms.l6] at h; exact h.none
    simp only [impl_prog_doms.l6] at h
)
 | (with_reducible refine here_next (N0 := 60000000) ?_
    skip
    refine nexts_to (_, _, _, _, _, _, _, _, _, _, _) (by decide) ?_ (Nat.lt_succ_self _) h ?_
    · exact (by simp [slNL, C.inN, V.inN, V.inNs, V.inNss, inNss_dd, inNs_map_d])
    · simp only [SubL, putSt, lk, lkb, reduceCtorEq, Nat.reduceEqDiff, List.length_set, List.length_replicate]; repeat' (first | apply And.intro | rfl | trivial | (simp only [*]; done)))
 | (with_reducible refine here_join (a := (.block 7 _)) (b := (.region 21 _ _)) ?_
    skip
    revert h
    with_reducible refine bind_elimY ?_
    intro o5 h hK5
    unfold impl_prog_doms.a5 at h
    refine sw_join (ι := (List Int) × Gprog × Int × Int × Bool × Int) 50000000 (fun x : (List Int) × Gprog × Int × Int × Bool × Int => [(.s 0, some (.v (.d (.ptr .bor [.row .bor 3 (Rw (GFunc.cells .bor) x.2.1.program.funcs), .row .bor 1 (Rw (cL .bor 1 (cI .i64)) x.2.1.h)])))), (.s 1, some (.v (V.int x.2.2.1))), (.s 5, some (.v (V.int x.2.2.2.1))), (.s 7, some (.v (.sl 10000384 1 0 x.1.length))), (.s 9, some (.v (V.bool x.2.2.2.2.1))), (.s 10, some (.v (V.int x.2.2.2.2.2))), (.r 10000384, some (.o 1 (dd (Rw (cI .i64) x.1))))]) (fun x => Yes (some (x)) o5) ?_ ?_
    rotate_left
    rintro ⟨b1, b2, b3, b4, b5, b6⟩ h
    obtain rfl := h.get
    have h := hK5
    (try (simp only [Sum.elim_inl, Sum.elim_inr] at h))
    refine sw_gh ?_
    refine gh_sw ?_
    skip)
 | (with_reducible refine here_meet (N0 := 50000000) ?_
    skip
    refine meet_to (_, _, _, _, _, _) (by decide) ?_ h ?_
    · exact (by simp [slNL, C.inN, V.inN, V.inNs, V.inNss, inNss_dd, inNs_map_d])
    · simp only [SubL, putSt, lk, lkb, reduceCtorEq, Nat.reduceEqDiff, List.length_set, List.length_replicate]; repeat' (first | apply And.intro | rfl | trivial | (simp only [*]; done)))
 | (with_reducible refine here_loop (c := (.seq (.seq (.region 20 _ _) _) _)) ?_
    skip
    revert h
    with_reducible refine bind_elimY ?_
    intro o4 h hK4
    refine sw_loop (ι := Nat × (List Int) × Gprog × Int × Int × Bool × Int) 40000000 (by decide) (fun x : Nat × (List Int) × Gprog × Int × Int × Bool × Int => [(.s 0, some (.v (.d (.ptr .bor [.row .bor 3 (Rw (GFunc.cells .bor) x.2.2.1.program.funcs), .row .bor 1 (Rw (cL .bor 1 (cI .i64)) x.2.2.1.h)])))), (.s 1, some (.v (V.int x.2.2.2.1))), (.s 5, some (.v (V.int x.2.2.2.2.1))), (.s 7, some (.v (.sl 10000384 1 0 x.2.1.length))), (.s 9, some (.v (V.bool x.2.2.2.2.2.1))), (.s 10, some (.v (V.int x.2.2.2.2.2.2))), (.r 10000384, some (.o 1 (dd (Rw (cI .i64) x.2.1))))]) (fun x => x.1) (fun x => Yes (impl_prog_doms.l4 x.1 x.2.1 x.2.2.1 x.2.2.2.1 x.2.2.2.2.1 x.2.2.2.2.2.1 x.2.2.2.2.2.2) o4) (_, _, _, _, _, _, _) ?_ h ?_ ?_
    · exact (by simp [slNL, C.inN, V.inN, V.inNs, V.inNss, inNss_dd, inNs_map_d])
    · simp only [SubL, putSt, lk, lkb, reduceCtorEq, Nat.reduceEqDiff, List.length_set, List.length_replicate]; repeat' (first | apply And.intro | rfl | trivial | (simp only [*]; done))
    rintro ⟨_ | k, a1, a2, a3, a4, a5, a6⟩ h
    · simp only [impl_prog_doms.l4] at h; exact h.none
    simp only [impl_prog_doms.l4] at h
)
 | (with_reducible refine here_next (N0 := 40000000) ?_
    skip
    refine nexts_to (_, _, _, _, _, _, _) (by decide) ?_ (Nat.lt_succ_self _) h ?_
    · exact (by simp [slNL, C.inN, V.inN, V.inNs, V.inNss, inNss_dd, inNs_map_d])
    · simp only [SubL, putSt, lk, lkb, reduceCtorEq, Nat.reduceEqDiff, List.length_set, List.length_replicate]; repeat' (first | apply And.intro | rfl | trivial | (simp only [*]; done)))
 | (with_reducible refine here_loop (c := (.seq (.seq (.region 17 _ _) _) _)) ?_
    skip
    revert h
    with_reducible refine bind_elimY ?_
    intro o3 h hK3
    refine sw_loop (ι := Nat × (List Int) × Gprog × Int × Int × Bool) 30000000 (by decide) (fun x : Nat × (List Int) × Gprog × Int × Int × Bool => [(.s 0, some (.v (.d (.ptr .bor [.row .bor 3 (Rw (GFunc.cells .bor) x.2.2.1.program.funcs), .row .bor 1 (Rw (cL .bor 1 (cI .i64)) x.2.2.1.h)])))), (.s 1, some (.v (V.int x.2.2.2.1))), (.s 5, some (.v (V.int x.2.2.2.2.1))), (.s 7, some (.v (.sl 10000384 1 0 x.2.1.length))), (.s 9, some (.v (V.bool x.2.2.2.2.2))), (.r 10000384, some (.o 1 (dd (Rw (cI .i64) x.2.1))))]) (fun x => x.1) (fun x => Yes (impl_prog_doms.l3 x.1 x.2.1 x.2.2.1 x.2.2.2.1 x.2.2.2.2.1 x.2.2.2.2.2) o3) (_, _, _, _, _, _) ?_ h ?_ ?_
    · exact (by simp [slNL, C.inN, V.inN, V.inNs, V.inNss, inNss_dd, inNs_map_d])
    · simp only [SubL, putSt, lk, lkb, reduceCtorEq, Nat.reduceEqDiff, List.length_set, List.length_replicate]; repeat' (first | apply And.intro | rfl | trivial | (simp only [*]; done))
    rintro ⟨_ | k, a1, a2, a3, a4, a5⟩ h
    · simp only [impl_prog_doms.l3] at h; exact h.none
    simp only [impl_prog_doms.l3] at h
)
 | (with_reducible refine here_next (N0 := 30000000) ?_
    skip
    refine nexts_to (_, _, _, _, _, _) (by decide) ?_ (Nat.lt_succ_self _) h ?_
    · exact (by simp [slNL, C.inN, V.inN, V.inNs, V.inNss, inNss_dd, inNs_map_d])
    · simp only [SubL, putSt, lk, lkb, reduceCtorEq, Nat.reduceEqDiff, List.length_set, List.length_replicate]; repeat' (first | apply And.intro | rfl | trivial | (simp only [*]; done)))
 | (with_reducible refine here_loop (c := (.seq (.region 10 _ _) _)) ?_
    skip
    revert h
    with_reducible refine bind_elimY ?_
    intro o2 h hK2
    refine sw_loop (ι := Nat × (List Int) × Gprog × Int × Int × Int × Int) 20000000 (by decide) (fun x : Nat × (List Int) × Gprog × Int × Int × Int × Int => [(.s 0, some (.v (.d (.ptr .bor [.row .bor 3 (Rw (GFunc.cells .bor) x.2.2.1.program.funcs), .row .bor 1 (Rw (cL .bor 1 (cI .i64)) x.2.2.1.h)])))), (.s 1, some (.v (V.int x.2.2.2.1))), (.s 5, some (.v (V.int x.2.2.2.2.1))), (.s 7, some (.v (.sl 10000384 1 0 x.2.1.length))), (.s 36, some (.v (V.int x.2.2.2.2.2.1))), (.s 37, some (.v (V.int x.2.2.2.2.2.2))), (.r 10000384, some (.o 1 (dd (Rw (cI .i64) x.2.1))))]) (fun x => x.1) (fun x => Yes (impl_prog_doms.l2 x.1 x.2.1 x.2.2.1 x.2.2.2.1 x.2.2.2.2.1 x.2.2.2.2.2.1 x.2.2.2.2.2.2) o2) (_, _, _, _, _, _, _) ?_ h ?_ ?_
    · exact (by simp [slNL, C.inN, V.inN, V.inNs, V.inNss, inNss_dd, inNs_map_d])
    · simp only [SubL, putSt, lk, lkb, reduceCtorEq, Nat.reduceEqDiff, List.length_set, List.length_replicate]; repeat' (first | apply And.intro | rfl | trivial | (simp only [*]; done))
    rintro ⟨_ | k, a1, a2, a3, a4, a5, a6⟩ h
    · simp only [impl_prog_doms.l2] at h; exact h.none
    simp only [impl_prog_doms.l2] at h
)
 | (with_reducible refine here_next (N0 := 20000000) ?_
    skip
    refine nexts_to (_, _, _, _, _, _, _) (by decide) ?_ (Nat.lt_succ_self _) h ?_
    · exact (by simp [slNL, C.inN, V.inN, V.inNs, V.inNss, inNss_dd, inNs_map_d])
    · simp only [SubL, putSt, lk, lkb, reduceCtorEq, Nat.reduceEqDiff, List.length_set, List.length_replicate]; repeat' (first | apply And.intro | rfl | trivial | (simp only [*]; done)))
 | (with_reducible refine here_loop (c := (.seq (.region 3 _ _) _)) ?_
    skip
    revert h
    with_reducible refine bind_elimY ?_
    intro o1 h hK1
    refine sw_loop (ι := Nat × Gprog × Int × Int × Int × Int) 10000000 (by decide) (fun x : Nat × Gprog × Int × Int × Int × Int => [(.s 0, some (.v (.d (.ptr .bor [.row .bor 3 (Rw (GFunc.cells .bor) x.2.1.program.funcs), .row .bor 1 (Rw (cL .bor 1 (cI .i64)) x.2.1.h)])))), (.s 1, some (.v (V.int x.2.2.1))), (.s 5, some (.v (V.int x.2.2.2.1))), (.s 17, some (.v (V.int x.2.2.2.2.1))), (.s 18, some (.v (V.int x.2.2.2.2.2)))]) (fun x => x.1) (fun x => Yes (impl_prog_doms.l1 x.1 x.2.1 x.2.2.1 x.2.2.2.1 x.2.2.2.2.1 x.2.2.2.2.2) o1) (_, _, _, _, _, _) ?_ h ?_ ?_
    · exact (by simp [slNL, C.inN, V.inN, V.inNs, V.inNss, inNss_dd, inNs_map_d])
    · simp only [SubL, putSt, lk, lkb, reduceCtorEq, Nat.reduceEqDiff, List.length_set, List.length_replicate]; repeat' (first | apply And.intro | rfl | trivial | (simp only [*]; done))
    rintro ⟨_ | k, a1, a2, a3, a4, a5⟩ h
    · simp only [impl_prog_doms.l1] at h; exact h.none
    simp only [impl_prog_doms.l1] at h
)
 | (with_reducible refine here_next (N0 := 10000000) ?_
    skip
    refine nexts_to (_, _, _, _, _, _) (by decide) ?_ (Nat.lt_succ_self _) h ?_
    · exact (by simp [slNL, C.inN, V.inN, V.inNs, V.inNss, inNss_dd, inNs_map_d])
    · simp only [SubL, putSt, lk, lkb, reduceCtorEq, Nat.reduceEqDiff, List.length_set, List.length_replicate]; repeat' (first | apply And.intro | rfl | trivial | (simp only [*]; done)))
 | with_reducible refine sw_seq ?_
 | with_reducible refine seqQ_ret ?_
 | with_reducible refine seqQ_exit ?_
 | (with_reducible refine gh_nilRow 4 .own 1 ?_ ?_
    · simp only [putSt, lk, lkb, reduceCtorEq, Nat.reduceEqDiff]; done
    skip)
 | ((with_reducible refine wp_ite ?_ ?_)
    all_goals (intro hc; (try (simp only [Bool.not_eq_true, Bool.not_eq_false] at hc)); simp only [hc]))
 | (with_reducible apply regW_skip
    · simp only [dstOk, Nat.reduceLT]
    · rfl
    · simp only [putSt, lk, lkb, reduceCtorEq, Nat.reduceEqDiff]; done)
 | (with_reducible apply regW_yesN
    · simp only [dstOk, Nat.reduceLT]
    · rfl
    · simp only [putSt, lk, lkb, reduceCtorEq, Nat.reduceEqDiff]; done)
 | (with_reducible apply regW_no
    · simp only [dstOk, Nat.reduceLT]
    · rfl
    · simp only [putSt, lk, lkb, reduceCtorEq, Nat.reduceEqDiff, Bool.not_true, Bool.not_false]; done)
 | (with_reducible apply regW_guardN
    · simp only [dstOk, Nat.reduceLT]
    · rfl
    · simp only [putSt, lk, lkb, reduceCtorEq, Nat.reduceEqDiff]; rfl
    all_goals (intro hc; (try (simp only [Bool.not_true, Bool.not_false] at hc))))
 | (with_reducible apply sw_cond
    · simp only [putSt, lk, lkb, reduceCtorEq, Nat.reduceEqDiff]; rfl
    all_goals (intro hc; try (cases hc; done)))
 | ((first
     | ((with_reducible refine gh_ret ?_)
        revert h
        with_reducible refine some_elim ?_
        rintro rfl)
     | (with_reducible refine here_call ?_
        revert h
        with_reducible refine bind_elim ?_
        intro t ht h
        (first
          | (refine call_dataE (c_impl_prog_preds ht) ?_ rfl ?_
             · first | rfl | (simp; done))
          | (refine call_dataE (c_impl_prog_code ht) ?_ rfl ?_
             · first | rfl | (simp; done))
          | (refine call_dataE (c_impl_prog_reached ht) ?_ rfl ?_
             · first | rfl | (simp; done))))
     | (with_reducible apply regD_opK
        · simp only [dstOk, Nat.reduceLT]
        · simp only [Nat.reduceAdd]; rfl
        intro k hk)
     | (with_reducible apply regW_opK
        · simp only [dstOk, Nat.reduceLT]
        · simp only [Nat.reduceAdd]; rfl
        intro k hk)
     | skip)
    simp only [RetW, bn, lkb, evb, opC, opP, fetchN, fetchP, fetchAll, fetchO, Prog.bind, Prog.wp, Prog.wp_bind, lk, nameP, nameAll, Value.oneCell', putSt, stepP, putP, reduceCtorEq, V.lin, V.linL, D.lin, isNil, binP, unP, BinOp.isShift, Prog.ofO, Nat.reduceAdd, Nat.reduceMul, Nat.reduceSub, Nat.reduceLT, Nat.reduceLeDiff, Nat.reduceEqDiff, ite_true, ite_false, fieldAddrP, fieldP, indexAddrP, loadP, storeP, boxP, allocP, cellsP, asVal, setSeg, outP, outT, cntT, TyK.field, TyK.agg, zeroRow, V.ren, V.renL, forall_eq_or_imp, forall_const, minmaxP, lenP, lenOf, lenStr, V.asInt, decide_true, decide_false, sliceP, boundP, makeSliceP, convertP, appendP, rowsOfP, ontoP, sizeFits, V.rowSize, TyK.src, resV, resV.go, resV.gol, retP, retOne, retAll, resTo, objsAre, Option.map_eq_map, Function.const_apply, Int.reduceNeg, Int.reduceToNat, ty2, ty3, ty26, ty28, ty30, ty53, ty63, ty65, ty68, ty107, ty122, GFunc.cells, GI2.cells, GProgram.cells, Gprog.cells, cI, cB, cS, cL, GI2_e, GFunc_e, GProgram_e, Gprog_e, LcIi64_e, shiftBin_shl, shiftBin_shr, intBin_quo, intBin_rem, Int.reduceLT, Int.reduceEq, not_false_eq_true, Int.not_lt, nilEqP, ne_eq, not_false_eq_true, not_true_eq_false, *]
    try (refine hk.use _ _ _ _ ?_; clear hk k))
 | fail)
  all_goals (try rfl)
  all_goals (try (simp; done))
  all_goals (try (simp_all; done))
def impl_Doms (k : Nat) (p0 : GProgram) (p1 : Int) : Option ((List Int)) :=
  (impl_knownFunc k p0 p1).bind fun t1 => cond ((!t1.2)) (some []) ((impl_prog_doms k t1.1 p1).bind fun t2 => some t2)
end Go.Proofs.Ytdlaplgofgklnaa
namespace Go.Proofs.Ytdlaplgofgklnaa
open Go.Proofs Go.Proofs.Ytdlaplgofgklnaa.L
set_option maxHeartbeats 8000000
set_option linter.unusedSimpArgs false
set_option linter.unusedVariables false
set_option maxRecDepth 100000
def laws_FnExactDoms.a1 (k : Nat) (a1 : (List GFunc)) (a2 : (List Int)) (a3 : (List Int)) (a4 : Int) (a5 : Int) : Option ((Bool) ⊕ ((List GFunc) × (List Int) × (List Int) × Int)) :=
  cond ((decide (a5 < 0))) (some (.inl (false))) ((laws_eqInt64S k a3 a2).bind fun t10 => cond ((!t10)) (some (.inl (false))) (some (.inr (a1, a2, a3, a4))))
def laws_FnExactDoms (k : Nat) (p0 : GProgram) (p1 : Int) : Option (Bool) :=
  (laws_szProgram k p0 1048576).bind fun t1 => cond ((decide (t1 < 0))) (some true) ((laws_toProgram k p0).bind fun t2 => (spec_Doms k t2 p1).bind fun t3 => (laws_toProgram k p0).bind fun t4 => (impl_Doms k t4 p1).bind fun t5 => (laws_eqInt64S k t5 t3).bind fun t6 => cond ((!t6)) (some false) ((laws_toProgram k p0).bind fun t7 => (laws_eqProgram k t4 t7).bind fun t8 => cond ((!t8)) (some false) ((laws_markProgram k t4 1).bind fun t9 => gd (t9.2.length = t4.funcs.length) ((laws_FnExactDoms.a1 k p0.funcs t3 t5 p1 t9.1).bind fun o1 => Sum.elim (fun o1l => some o1l) (fun o1r => (laws_markInt64S k o1r.2.2.1 1).bind fun t11 => gd (t11.2.length = o1r.2.2.1.length) ((laws_heldInt64S k t11.2 1).bind fun t12 => cond ((decide (t12 < 0))) (some false) (cond ((t12 != t11.1)) (some false) ((laws_toProgram k ((⟨o1r.1⟩ : GProgram))).bind fun t13 => (impl_Doms k t13 o1r.2.2.2).bind fun t14 => (laws_eqInt64S k t14 o1r.2.1).bind fun t15 => cond ((!t15)) (some false) ((laws_heldInt64S k t11.2 1).bind fun t16 => cond ((decide (t16 < 0))) (some false) (cond ((t16 != t11.1)) (some false) (some true))))))) o1))))
end Go.Proofs.Ytdlaplgofgklnaa
namespace Go.Proofs.Ytdlaplgofgklnaa
open Go.Proofs Go.Proofs.Ytdlaplgofgklnaa.L
set_option maxHeartbeats 1000000
set_option linter.unusedSimpArgs false
set_option linter.unusedVariables false
set_option maxRecDepth 100000
def spec_l17Body.l1 : Nat → (List (List Int)) → Int → (List Int) → Option (Int)
  | 0, _, _, _ => none
  | k + 1, a1, a2, a3 => cond ((decide (((a3.length : Int)) > 0))) ((idx a3 ((IntKind.i64.wrap (((a3.length : Int)) - 1)))).bind fun m1 => gd (0 ≤ (IntKind.i64.wrap (((a3.length : Int)) - 1)) ∧ (IntKind.i64.wrap (((a3.length : Int)) - 1)) ≤ (a3.length : Int)) ((spec_l08Bit m1).bind fun t2 => cond ((((iand .i64 a2 t2)) != 0)) (spec_l17Body.l1 k a1 a2 ((a3.take (((IntKind.i64.wrap (((a3.length : Int)) - 1))).toNat)))) ((spec_l08Bit m1).bind fun t3 => (idx a1 m1).bind fun m4 => gd ((((IntKind.i64.wrap (((a3.length : Int)) - 1))).toNat + m4.length) * 8 ≤ 35184372088832 ∧ ((IntKind.i64.wrap (((a3.length : Int)) - 1))).toNat + m4.length ≤ 35184372088832) (spec_l17Body.l1 k a1 ((ior .i64 a2 t3)) (((a3.take (((IntKind.i64.wrap (((a3.length : Int)) - 1))).toNat)) ++ m4)))))) (some (a2))
def spec_l17Body (k : Nat) (p0 : (List (List Int))) (p1 : Int) (p2 : Int) : Option (Int) :=
  (spec_l17Body.l1 k p0 p1 ([p2])).bind fun o1 => some o1
theorem c_spec_l17Body {k : Nat} {p0 : (List (List Int))} {p1 : Int} {p2 : Int} {r : Int} (h : spec_l17Body k p0 p1 p2 = some r) : Con Try.prog 49 [.d (.row .bor 1 (Rw (cL .bor 1 (cI .i64)) p0)), V.int p1, V.int p2] [] (V.int r) [] := by
  refine con_of_sw Try.func49 rfl Try.call49 (by simp [Try.ntmps49]) (by simp [V.inNs, V.inN]) (by simp [C.inN, V.inNss, V.inNs, V.inN, inNss_dd]) (by simp [V.inNs, V.inN]) (by simp [C.inN, V.inNss, V.inNs, V.inN, inNss_dd]) rfl ?_
  rw [Try.ntmps49, Try.results49]
  unfold spec_l17Body at h
  replace h := Yes.mk h
  simp only [entryS, entryO, Nat.reduceAdd, List.length_nil, List.length_cons]
  repeat' (first
 | (with_reducible (first | refine sw_reg ?_ | refine sw_ret ?_ | refine sw_skip ?_ | refine sw_block ?_ | refine sw_exit ?_ | refine seqQ_normal ?_ | refine blockQ_normal ?_ | refine blockQ_ret ?_ | refine blockQ_this ?_ | refine blockQ_other (by decide) ?_ | refine regW_nil ?_ | refine sw_draw mixed ?_ | refine retQ_ret ?_ | refine retQ_normal ?_))
 | (with_reducible refine regD_nil ?_
    refine ⟨by kernel_rfl, ?_⟩)
 | (revert h; (first | ((with_reducible refine idx_elim ?_); intro m hm1 hm2 hm3 h; (try (simp only [Int.reduceToNat] at hm3)); (try (revert hm3; (with_reducible apply same_elim); (focus (with_reducible assumption)); rintro rfl)); (try (simp only [List.length_set, List.length_cons, List.length_nil, List.length_replicate, Nat.reduceAdd, Int.cast_ofNat_Int, Nat.zero_add, List.length_append] at hm2))) | (with_reducible refine sidx_elim ?_; intro m hm1 hm3 h) | (with_reducible refine gd_elim ?_; intro hg h; try (have hg2 := hg.2; have hg := hg.1; (try (simp only [Nat.reduceLeDiff] at hg2)); (try (revert hg2; (with_reducible refine toNat_elim hg ?_); intro hg2 hg4)); try (have hg3 := hg2.2; have hg2 := hg2.1; (try (simp only [Nat.reduceLeDiff] at hg3))))) | (with_reducible refine condt_elim ?_ ?_; (focus (with_reducible assumption)); intro h) | (with_reducible refine condf_elim ?_ ?_; (focus (with_reducible assumption)); intro h)))
 | ((first | with_reducible refine seqQ_ret (K := (fun st1 n1 => Gh st1 n1 (NextS _ 10000000 _ _ _ _))) ?_ | with_reducible refine seqQ_exit (K := (fun st1 n1 => Gh st1 n1 (NextS _ 10000000 _ _ _ _))) ?_)
    obtain rfl := h.get
    have h := hK1
    (try (simp only [Sum.elim_inl, Sum.elim_inr] at h)))
 | (with_reducible refine here_loop (c := (.seq (.seq (.region 2 _ _) _) _)) ?_
    skip
    revert h
    with_reducible refine bind_elimY ?_
    intro o1 h hK1
    refine sw_gh ?_
    refine gh_resSlot 7 ?_
    simp only [rxb, Nat.reduceAdd, Nat.reduceLeDiff, resSlotP, nameSlotP, Prog.wp, Prog.wp_bind, Prog.bind, Prog.ofO, putSt, lk, lkb, reduceCtorEq, Nat.reduceEqDiff, resV, resV.go, resV.gol, nameAll, nameP, outP, outT, cntT, V.lin, D.lin, *]
    refine gh_sw ?_
    refine sw_loop (ι := Nat × (List (List Int)) × Int × (List Int)) 10000000 (by decide) (fun x : Nat × (List (List Int)) × Int × (List Int) => [(.s 0, some (.v (.d (.row .bor 1 (Rw (cL .bor 1 (cI .i64)) x.2.1))))), (.s 1, some (.v (V.int x.2.2.1))), (.s 7, some (.v (.d (.row .own 1 (Rw (cI .i64) x.2.2.2)))))]) (fun x => x.1) (fun x => Yes (spec_l17Body.l1 x.1 x.2.1 x.2.2.1 x.2.2.2) o1) (_, _, _, _) ?_ h ?_ ?_
    · exact (by simp [slNL, C.inN, V.inN, V.inNs, V.inNss, inNss_dd, inNs_map_d])
    · simp only [SubL, putSt, lk, lkb, reduceCtorEq, Nat.reduceEqDiff, List.length_set, List.length_replicate]; repeat' (first | apply And.intro | rfl | trivial | (simp only [*]; done))
    rintro ⟨_ | k, a1, a2, a3⟩ h
    · simp only [spec_l17Body.l1] at h; exact h.none
    simp only [spec_l17Body.l1] at h
    refine sw_gh ?_
    refine gh_nameSlot 7 ?_
    simp only [rxb, Nat.reduceAdd, Nat.reduceLeDiff, resSlotP, nameSlotP, Prog.wp, Prog.wp_bind, Prog.bind, Prog.ofO, putSt, lk, lkb, reduceCtorEq, Nat.reduceEqDiff, resV, resV.go, resV.gol, nameAll, nameP, outP, outT, cntT, V.lin, D.lin, Nat.reduceAdd]
    refine gh_sw ?_
)
 | (with_reducible refine here_next (N0 := 10000000) ?_
    skip
    refine gh_resSlot 7 ?_
    simp only [rxb, Nat.reduceAdd, Nat.reduceLeDiff, resSlotP, nameSlotP, Prog.wp, Prog.wp_bind, Prog.bind, Prog.ofO, putSt, lk, lkb, reduceCtorEq, Nat.reduceEqDiff, resV, resV.go, resV.gol, nameAll, nameP, outP, outT, cntT, V.lin, D.lin, *]
    refine nexts_to (_, _, _, _) (by decide) ?_ (Nat.lt_succ_self _) h ?_
    · exact (by simp [slNL, C.inN, V.inN, V.inNs, V.inNss, inNss_dd, inNs_map_d])
    · simp only [SubL, putSt, lk, lkb, reduceCtorEq, Nat.reduceEqDiff, List.length_set, List.length_replicate]; repeat' (first | apply And.intro | rfl | trivial | (simp only [*]; done)))
 | with_reducible refine sw_seq ?_
 | with_reducible refine seqQ_ret ?_
 | with_reducible refine seqQ_exit ?_
 | ((with_reducible refine wp_ite ?_ ?_)
    all_goals (intro hc; (try (simp only [Bool.not_eq_true, Bool.not_eq_false] at hc)); simp only [hc]))
 | (with_reducible apply regW_skip
    · simp only [dstOk, Nat.reduceLT]
    · rfl
    · simp only [putSt, lk, lkb, reduceCtorEq, Nat.reduceEqDiff]; done)
 | (with_reducible apply regW_yesN
    · simp only [dstOk, Nat.reduceLT]
    · rfl
    · simp only [putSt, lk, lkb, reduceCtorEq, Nat.reduceEqDiff]; done)
 | (with_reducible apply regW_no
    · simp only [dstOk, Nat.reduceLT]
    · rfl
    · simp only [putSt, lk, lkb, reduceCtorEq, Nat.reduceEqDiff, Bool.not_true, Bool.not_false]; done)
 | (with_reducible apply regW_guardN
    · simp only [dstOk, Nat.reduceLT]
    · rfl
    · simp only [putSt, lk, lkb, reduceCtorEq, Nat.reduceEqDiff]; rfl
    all_goals (intro hc; (try (simp only [Bool.not_true, Bool.not_false] at hc))))
 | (with_reducible apply sw_cond
    · simp only [putSt, lk, lkb, reduceCtorEq, Nat.reduceEqDiff]; rfl
    all_goals (intro hc; try (cases hc; done)))
 | ((first
     | ((with_reducible refine gh_ret ?_)
        revert h
        with_reducible refine some_elim ?_
        rintro rfl)
     | (with_reducible refine here_call ?_
        revert h
        with_reducible refine bind_elim ?_
        intro t ht h
        (first
          | (refine call_dataE (c_spec_l08Bit ht) ?_ rfl ?_
             · first | rfl | (simp; done))))
     | (with_reducible apply regD_opK
        · simp only [dstOk, Nat.reduceLT]
        · simp only [Nat.reduceAdd]; rfl
        intro k hk)
     | (with_reducible apply regW_opK
        · simp only [dstOk, Nat.reduceLT]
        · simp only [Nat.reduceAdd]; rfl
        intro k hk)
     | skip)
    simp only [RetW, bn, lkb, evb, opC, opP, fetchN, fetchP, fetchAll, fetchO, Prog.bind, Prog.wp, Prog.wp_bind, lk, nameP, nameAll, Value.oneCell', putSt, stepP, putP, reduceCtorEq, V.lin, V.linL, D.lin, isNil, binP, unP, BinOp.isShift, Prog.ofO, Nat.reduceAdd, Nat.reduceMul, Nat.reduceSub, Nat.reduceLT, Nat.reduceLeDiff, Nat.reduceEqDiff, ite_true, ite_false, fieldAddrP, fieldP, indexAddrP, loadP, storeP, boxP, allocP, cellsP, asVal, setSeg, outP, outT, cntT, TyK.field, TyK.agg, zeroRow, V.ren, V.renL, forall_eq_or_imp, forall_const, minmaxP, lenP, lenOf, lenStr, V.asInt, decide_true, decide_false, sliceP, boundP, makeSliceP, convertP, appendP, rowsOfP, ontoP, sizeFits, V.rowSize, TyK.src, resV, resV.go, resV.gol, retP, retOne, retAll, resTo, objsAre, Option.map_eq_map, Function.const_apply, Int.reduceNeg, Int.reduceToNat, ty2, ty3, ty26, ty53, cI, cB, cS, cL, LcIi64_e, buildP, buildSliceP, putParts, structPlaces, chunks, List.replicate, List.flatten_nil, List.flatten_cons, Option.bind_some, bb, LcIi64_b, List.length_take, Nat.min_eq_left, *]
    try (refine hk.use _ _ _ _ ?_; clear hk k))
 | fail)
  all_goals (try rfl)
  all_goals (try (simp; done))
  all_goals (try (simp_all; done))
def spec_Loops.l3 : Nat → (List (List Int)) → (List Int) → (List GI3) → Int → Int → Int → Option ((List (List Int)) × (List Int) × (List GI3) × Int × Int)
  | 0, _, _, _, _, _, _ => none
  | k + 1, a1, a2, a3, a4, a5, a6 => (idx a1 a4).bind fun m4 => cond ((decide (a6 < ((m4.length : Int))))) ((idx m4 a6).bind fun m5 => (idx a2 a4).bind fun m6 => cond ((m6 != 0)) ((idx a2 m5).bind fun m7 => (spec_l08Bit a4).bind fun t8 => cond ((((iand .i64 m7 t8)) != 0)) ((spec_l08Bit a4).bind fun t9 => (spec_l17Body k ((a1.set a4.toNat m4)) ((ior .i64 a5 t9)) m5).bind fun t10 => spec_Loops.l3 k ((a1.set a4.toNat m4)) a2 a3 a4 t10 ((IntKind.i64.wrap (a6 + 1)))) (spec_Loops.l3 k ((a1.set a4.toNat m4)) a2 a3 a4 a5 ((IntKind.i64.wrap (a6 + 1))))) (spec_Loops.l3 k ((a1.set a4.toNat m4)) a2 a3 a4 a5 ((IntKind.i64.wrap (a6 + 1))))) (some ((a1.set a4.toNat m4), a2, a3, a4, a5))
def spec_Loops.a2 (k : Nat) (a1 : (List (List Int))) (a2 : (List Int)) (a3 : (List GI3)) (a4 : Int) : Option ((List (List Int)) × (List Int) × (List GI3) × Int) :=
  (spec_Loops.l3 k a1 a2 a3 a4 0 0).bind fun o3 => cond ((o3.2.2.2.2 != 0)) (gd ((o3.2.2.1.length + 1) * 24 ≤ 35184372088832 ∧ o3.2.2.1.length + 1 ≤ 35184372088832) (some (o3.1, o3.2.1, (o3.2.2.1 ++ [(⟨o3.2.2.2.1, o3.2.2.2.2, 0⟩ : GI3)]), o3.2.2.2.1))) (some (o3.1, o3.2.1, o3.2.2.1, o3.2.2.2.1))
def spec_Loops.l1 : Nat → (List (List Int)) → (List Int) → (List GI3) → Int → Option ((List GI3))
  | 0, _, _, _, _ => none
  | k + 1, a1, a2, a3, a4 => cond ((decide (a4 < ((a2.length : Int))))) ((spec_Loops.a2 k a1 a2 a3 a4).bind fun o2 => spec_Loops.l1 k o2.1 o2.2.1 o2.2.2.1 ((IntKind.i64.wrap (o2.2.2.2 + 1)))) (some (a3))
def spec_Loops.l5 : Nat → (List GI3) → Int → Int → Option ((List GI3) × Int)
  | 0, _, _, _ => none
  | k + 1, a1, a2, a3 => cond ((decide (a3 < ((a1.length : Int))))) ((idx a1 a3).bind fun m11 => (idx a1 a2).bind fun m12 => (spec_l08Bit m12.a).bind fun t13 => cond ((((iand .i64 m11.b t13)) != 0)) (spec_Loops.l5 k ((a1.set a2.toNat ((⟨m12.a, m12.b, (IntKind.i64.wrap (m12.c + 1))⟩ : GI3)))) a2 ((IntKind.i64.wrap (a3 + 1)))) (spec_Loops.l5 k a1 a2 ((IntKind.i64.wrap (a3 + 1))))) (some (a1, a2))
def spec_Loops.l4 : Nat → (List GI3) → Int → Option ((List GI3))
  | 0, _, _ => none
  | k + 1, a1, a2 => cond ((decide (a2 < ((a1.length : Int))))) ((spec_Loops.l5 k a1 a2 0).bind fun o5 => spec_Loops.l4 k o5.1 ((IntKind.i64.wrap (o5.2 + 1)))) (some (a1))
def spec_Loops (k : Nat) (p0 : GProgram) (p1 : Int) : Option ((List GI3)) :=
  (spec_l04Is k p0 p1).bind fun t1 => cond ((!t1)) (some []) ((spec_l17Preds k p0 p1).bind fun t2 => (spec_l17Doms k p0 p1).bind fun t3 => (spec_Loops.l1 k t2 t3 [] 0).bind fun o1 => (spec_Loops.l4 k o1 0).bind fun o4 => some o4)
theorem c_spec_Loops {k : Nat} {p0 : GProgram} {p1 : Int} {r : (List GI3)} (h : spec_Loops k p0 p1 = some r) : Con Try.prog 22 [.agg [.d (.row .bor 3 (Rw (GFunc.cells .bor) p0.funcs))], V.int p1] [] (.d (.row .own 3 (Rw GI3.cells r))) [] := by
  refine con_of_sw Try.func22 rfl Try.call22 (by simp [Try.ntmps22]) (by simp [V.inNs, V.inN]) (by simp [C.inN, V.inNss, V.inNs, V.inN, inNss_dd]) (by simp [V.inNs, V.inN]) (by simp [C.inN, V.inNss, V.inNs, V.inN, inNss_dd]) rfl ?_
  rw [Try.ntmps22, Try.results22]
  unfold spec_Loops at h
  replace h := Yes.mk h
  simp only [entryS, entryO, Nat.reduceAdd, List.length_nil, List.length_cons]
  repeat' (first
 | (with_reducible (first | refine sw_reg ?_ | refine sw_ret ?_ | refine sw_skip ?_ | refine sw_block ?_ | refine sw_exit ?_ | refine seqQ_normal ?_ | refine blockQ_normal ?_ | refine blockQ_ret ?_ | refine blockQ_this ?_ | refine blockQ_other (by decide) ?_ | refine regW_nil ?_ | refine sw_draw mixed ?_ | refine retQ_ret ?_ | refine retQ_normal ?_))
 | (with_reducible refine regD_nil ?_
    refine ⟨by kernel_rfl, ?_⟩)
 | (revert h; (first | ((with_reducible refine idx_elim ?_); intro m hm1 hm2 hm3 h; (try (simp only [Int.reduceToNat] at hm3)); (try (revert hm3; (with_reducible apply same_elim); (focus (with_reducible assumption)); rintro rfl)); (try (simp only [List.length_set, List.length_cons, List.length_nil, List.length_replicate, Nat.reduceAdd, Int.cast_ofNat_Int, Nat.zero_add, List.length_append] at hm2))) | (with_reducible refine sidx_elim ?_; intro m hm1 hm3 h) | (with_reducible refine gd_elim ?_; intro hg h; try (have hg2 := hg.2; have hg := hg.1; (try (simp only [Nat.reduceLeDiff] at hg2)); (try (revert hg2; (with_reducible refine toNat_elim hg ?_); intro hg2 hg4)); try (have hg3 := hg2.2; have hg2 := hg2.1; (try (simp only [Nat.reduceLeDiff] at hg3))))) | (with_reducible refine condt_elim ?_ ?_; (focus (with_reducible assumption)); intro h) | (with_reducible refine condf_elim ?_ ?_; (focus (with_reducible assumption)); intro h)))
 | ((first | with_reducible refine seqQ_ret (K := (fun st1 n1 => Gh st1 n1 (NextS _ 30000000 _ _ _ _))) ?_ | with_reducible refine seqQ_exit (K := (fun st1 n1 => Gh st1 n1 (NextS _ 30000000 _ _ _ _))) ?_)
    obtain rfl := h.get
    have h := hK3
    (try (simp only [Sum.elim_inl, Sum.elim_inr] at h)))
 | ((first | with_reducible refine seqQ_ret (K := (fun st1 n1 => Gh st1 n1 (MeetA _ 20000000 _ _))) ?_ | with_reducible refine seqQ_exit (K := (fun st1 n1 => Gh st1 n1 (MeetA _ 20000000 _ _))) ?_)
    obtain rfl := h.get
    have h := hK2
    (try (simp only [Sum.elim_inl, Sum.elim_inr] at h)))
 | ((first | with_reducible refine seqQ_ret (K := (fun st1 n1 => Gh st1 n1 (NextS _ 50000000 _ _ _ _))) ?_ | with_reducible refine seqQ_exit (K := (fun st1 n1 => Gh st1 n1 (NextS _ 50000000 _ _ _ _))) ?_)
    obtain rfl := h.get
    have h := hK5
    (try (simp only [Sum.elim_inl, Sum.elim_inr] at h)))
 | ((first | with_reducible refine seqQ_ret (K := (fun st1 n1 => Gh st1 n1 (NextS _ 40000000 _ _ _ _))) ?_ | with_reducible refine seqQ_exit (K := (fun st1 n1 => Gh st1 n1 (NextS _ 40000000 _ _ _ _))) ?_)
    obtain rfl := h.get
    have h := hK4
    (try (simp only [Sum.elim_inl, Sum.elim_inr] at h)))
 | ((first | with_reducible refine seqQ_ret (K := (fun st1 n1 => Gh st1 n1 (NextS _ 10000000 _ _ _ _))) ?_ | with_reducible refine seqQ_exit (K := (fun st1 n1 => Gh st1 n1 (NextS _ 10000000 _ _ _ _))) ?_)
    obtain rfl := h.get
    have h := hK1
    (try (simp only [Sum.elim_inl, Sum.elim_inr] at h)))
 | (with_reducible refine here_loop (c := (.seq (.seq (.region 11 _ _) _) _)) ?_
    skip
    revert h
    with_reducible refine bind_elimY ?_
    intro o3 h hK3
    refine sw_gh ?_
    (try (apply gh_resRow 640; (focus (simp only [putSt, lk, lkb, reduceCtorEq, Nat.reduceEqDiff]; try rfl)); (focus (first | (simp only [Rw_length, List.length_set]; omega) | (simp [Rw_length]; omega))); simp only [rxb, Nat.reduceAdd, Nat.reduceLeDiff, resSlotP, nameSlotP, Prog.wp, Prog.wp_bind, Prog.bind, Prog.ofO, putSt, lk, lkb, reduceCtorEq, Nat.reduceEqDiff, resV, resV.go, resV.gol, nameAll, nameP, outP, outT, cntT, V.lin, D.lin, *, mmb, GI2_Dset, GFunc_Dset, GProgram_Dset, GI3_Dset, LcIi64_Dset]))
    refine gh_sw ?_
    refine sw_loop (ι := Nat × (List (List Int)) × (List Int) × (List GI3) × Int × Int × Int) 30000000 (by decide) (fun x : Nat × (List (List Int)) × (List Int) × (List GI3) × Int × Int × Int => [(.s 5, some (.v (.sl 10000000 3 0 x.2.2.2.1.length))), (.s 6, some (.v (.sl 640 1 0 x.2.1.length))), (.s 7, some (.v (.sl 896 1 0 x.2.2.1.length))), (.s 8, some (.v (V.int x.2.2.2.2.1))), (.s 9, some (.v (V.int x.2.2.2.2.2.1))), (.s 10, some (.v (V.int x.2.2.2.2.2.2))), (.r 640, some (.o 1 (dd (Rw (cL .own 1 (cI .i64)) x.2.1)))), (.r 896, some (.o 1 (dd (Rw (cI .i64) x.2.2.1)))), (.r 10000000, some (.o 3 (dd (Rw GI3.cells x.2.2.2.1))))]) (fun x => x.1) (fun x => Yes (spec_Loops.l3 x.1 x.2.1 x.2.2.1 x.2.2.2.1 x.2.2.2.2.1 x.2.2.2.2.2.1 x.2.2.2.2.2.2) o3) (_, _, _, _, _, _, _) ?_ h ?_ ?_
    · exact (by simp [slNL, C.inN, V.inN, V.inNs, V.inNss, inNss_dd, inNs_map_d])
    · simp only [SubL, putSt, lk, lkb, reduceCtorEq, Nat.reduceEqDiff, List.length_set, List.length_replicate]; repeat' (first | apply And.intro | rfl | trivial | (simp only [*]; done))
    rintro ⟨_ | k, a1, a2, a3, a4, a5, a6⟩ h
    · simp only [spec_Loops.l3] at h; exact h.none
    simp only [spec_Loops.l3] at h
)
 | (with_reducible refine here_next (N0 := 30000000) ?_
    skip
    (try (apply gh_resRow 640; (focus (simp only [putSt, lk, lkb, reduceCtorEq, Nat.reduceEqDiff]; try rfl)); (focus (first | (simp only [Rw_length, List.length_set]; omega) | (simp [Rw_length]; omega))); simp only [rxb, Nat.reduceAdd, Nat.reduceLeDiff, resSlotP, nameSlotP, Prog.wp, Prog.wp_bind, Prog.bind, Prog.ofO, putSt, lk, lkb, reduceCtorEq, Nat.reduceEqDiff, resV, resV.go, resV.gol, nameAll, nameP, outP, outT, cntT, V.lin, D.lin, *, mmb, GI2_Dset, GFunc_Dset, GProgram_Dset, GI3_Dset, LcIi64_Dset]))
    refine nexts_to (_, _, _, _, _, _, _) (by decide) ?_ (Nat.lt_succ_self _) h ?_
    · exact (by simp [slNL, C.inN, V.inN, V.inNs, V.inNss, inNss_dd, inNs_map_d])
    · simp only [SubL, putSt, lk, lkb, reduceCtorEq, Nat.reduceEqDiff, List.length_set, List.length_replicate]; repeat' (first | apply And.intro | rfl | trivial | (simp only [*]; done)))
 | (with_reducible refine here_join (a := (.block 1 _)) (b := (.region 8 _ _)) ?_
    skip
    revert h
    with_reducible refine bind_elimY ?_
    intro o2 h hK2
    unfold spec_Loops.a2 at h
    refine sw_join (ι := (List (List Int)) × (List Int) × (List GI3) × Int) 20000000 (fun x : (List (List Int)) × (List Int) × (List GI3) × Int => [(.s 5, some (.v (.d (.row .own 3 (Rw GI3.cells x.2.2.1))))), (.s 6, some (.v (.sl 640 1 0 x.1.length))), (.s 7, some (.v (.sl 896 1 0 x.2.1.length))), (.s 8, some (.v (V.int x.2.2.2))), (.r 640, some (.o 1 (dd (Rw (cL .own 1 (cI .i64)) x.1)))), (.r 896, some (.o 1 (dd (Rw (cI .i64) x.2.1))))]) (fun x => Yes (some (x)) o2) ?_ ?_
    rotate_left
    rintro ⟨b1, b2, b3, b4⟩ h
    obtain rfl := h.get
    have h := hK2
    (try (simp only [Sum.elim_inl, Sum.elim_inr] at h))
    refine sw_gh ?_
    refine gh_nameSlot 5 ?_
    simp only [rxb, Nat.reduceAdd, Nat.reduceLeDiff, resSlotP, nameSlotP, Prog.wp, Prog.wp_bind, Prog.bind, Prog.ofO, putSt, lk, lkb, reduceCtorEq, Nat.reduceEqDiff, resV, resV.go, resV.gol, nameAll, nameP, outP, outT, cntT, V.lin, D.lin, Nat.reduceAdd]
    refine gh_sw ?_
    skip)
 | (with_reducible refine here_meet (N0 := 20000000) ?_
    skip
    refine gh_resSlot 5 ?_
    simp only [rxb, Nat.reduceAdd, Nat.reduceLeDiff, resSlotP, nameSlotP, Prog.wp, Prog.wp_bind, Prog.bind, Prog.ofO, putSt, lk, lkb, reduceCtorEq, Nat.reduceEqDiff, resV, resV.go, resV.gol, nameAll, nameP, outP, outT, cntT, V.lin, D.lin, *]
    (try (apply gh_resRow 640; (focus (simp only [putSt, lk, lkb, reduceCtorEq, Nat.reduceEqDiff]; try rfl)); (focus (first | (simp only [Rw_length, List.length_set]; omega) | (simp [Rw_length]; omega))); simp only [rxb, Nat.reduceAdd, Nat.reduceLeDiff, resSlotP, nameSlotP, Prog.wp, Prog.wp_bind, Prog.bind, Prog.ofO, putSt, lk, lkb, reduceCtorEq, Nat.reduceEqDiff, resV, resV.go, resV.gol, nameAll, nameP, outP, outT, cntT, V.lin, D.lin, *, mmb, GI2_Dset, GFunc_Dset, GProgram_Dset, GI3_Dset, LcIi64_Dset]))
    refine meet_to (_, _, _, _) (by decide) ?_ h ?_
    · exact (by simp [slNL, C.inN, V.inN, V.inNs, V.inNss, inNss_dd, inNs_map_d])
    · simp only [SubL, putSt, lk, lkb, reduceCtorEq, Nat.reduceEqDiff, List.length_set, List.length_replicate]; repeat' (first | apply And.intro | rfl | trivial | (simp only [*]; done)))
 | (with_reducible refine here_loop (c := (.seq (.seq (.region 22 _ _) _) _)) ?_
    skip
    revert h
    with_reducible refine bind_elimY ?_
    intro o5 h hK5
    refine sw_loop (ι := Nat × (List GI3) × Int × Int) 50000000 (by decide) (fun x : Nat × (List GI3) × Int × Int => [(.s 5, some (.v (.sl 10000000 3 0 x.2.1.length))), (.s 12, some (.v (V.int x.2.2.1))), (.s 13, some (.v (V.int x.2.2.2))), (.r 10000000, some (.o 3 (dd (Rw GI3.cells x.2.1))))]) (fun x => x.1) (fun x => Yes (spec_Loops.l5 x.1 x.2.1 x.2.2.1 x.2.2.2) o5) (_, _, _, _) ?_ h ?_ ?_
    · exact (by simp [slNL, C.inN, V.inN, V.inNs, V.inNss, inNss_dd, inNs_map_d])
    · simp only [SubL, putSt, lk, lkb, reduceCtorEq, Nat.reduceEqDiff, List.length_set, List.length_replicate]; repeat' (first | apply And.intro | rfl | trivial | (simp only [*]; done))
    rintro ⟨_ | k, a1, a2, a3⟩ h
    · simp only [spec_Loops.l5] at h; exact h.none
    simp only [spec_Loops.l5] at h
)
 | (with_reducible refine here_next (N0 := 50000000) ?_
    skip
    refine nexts_to (_, _, _, _) (by decide) ?_ (Nat.lt_succ_self _) h ?_
    · exact (by simp [slNL, C.inN, V.inN, V.inNs, V.inNss, inNss_dd, inNs_map_d])
    · simp only [SubL, putSt, lk, lkb, reduceCtorEq, Nat.reduceEqDiff, List.length_set, List.length_replicate]; repeat' (first | apply And.intro | rfl | trivial | (simp only [*]; done)))
 | (with_reducible refine here_loop (c := (.seq (.seq (.region 19 _ _) _) _)) ?_
    skip
    revert h
    with_reducible refine bind_elimY ?_
    intro o4 h hK4
    refine sw_loop (ι := Nat × (List GI3) × Int) 40000000 (by decide) (fun x : Nat × (List GI3) × Int => [(.s 5, some (.v (.sl 10000000 3 0 x.2.1.length))), (.s 12, some (.v (V.int x.2.2))), (.r 10000000, some (.o 3 (dd (Rw GI3.cells x.2.1))))]) (fun x => x.1) (fun x => Yes (spec_Loops.l4 x.1 x.2.1 x.2.2) o4) (_, _, _) ?_ h ?_ ?_
    · exact (by simp [slNL, C.inN, V.inN, V.inNs, V.inNss, inNss_dd, inNs_map_d])
    · simp only [SubL, putSt, lk, lkb, reduceCtorEq, Nat.reduceEqDiff, List.length_set, List.length_replicate]; repeat' (first | apply And.intro | rfl | trivial | (simp only [*]; done))
    rintro ⟨_ | k, a1, a2⟩ h
    · simp only [spec_Loops.l4] at h; exact h.none
    simp only [spec_Loops.l4] at h
)
 | (with_reducible refine here_next (N0 := 40000000) ?_
    skip
    refine nexts_to (_, _, _) (by decide) ?_ (Nat.lt_succ_self _) h ?_
    · exact (by simp [slNL, C.inN, V.inN, V.inNs, V.inNss, inNss_dd, inNs_map_d])
    · simp only [SubL, putSt, lk, lkb, reduceCtorEq, Nat.reduceEqDiff, List.length_set, List.length_replicate]; repeat' (first | apply And.intro | rfl | trivial | (simp only [*]; done)))
 | (with_reducible refine here_loop (c := (.seq (.seq (.region 7 _ _) _) _)) ?_
    skip
    revert h
    with_reducible refine bind_elimY ?_
    intro o1 h hK1
    refine sw_gh ?_
    refine gh_resSlot 5 ?_
    simp only [rxb, Nat.reduceAdd, Nat.reduceLeDiff, resSlotP, nameSlotP, Prog.wp, Prog.wp_bind, Prog.bind, Prog.ofO, putSt, lk, lkb, reduceCtorEq, Nat.reduceEqDiff, resV, resV.go, resV.gol, nameAll, nameP, outP, outT, cntT, V.lin, D.lin, *]
    (try (apply gh_resRow 640; (focus (simp only [putSt, lk, lkb, reduceCtorEq, Nat.reduceEqDiff]; try rfl)); (focus (first | (simp only [Rw_length, List.length_set]; omega) | (simp [Rw_length]; omega))); simp only [rxb, Nat.reduceAdd, Nat.reduceLeDiff, resSlotP, nameSlotP, Prog.wp, Prog.wp_bind, Prog.bind, Prog.ofO, putSt, lk, lkb, reduceCtorEq, Nat.reduceEqDiff, resV, resV.go, resV.gol, nameAll, nameP, outP, outT, cntT, V.lin, D.lin, *, mmb, GI2_Dset, GFunc_Dset, GProgram_Dset, GI3_Dset, LcIi64_Dset]))
    refine gh_sw ?_
    refine sw_loop (ι := Nat × (List (List Int)) × (List Int) × (List GI3) × Int) 10000000 (by decide) (fun x : Nat × (List (List Int)) × (List Int) × (List GI3) × Int => [(.s 5, some (.v (.d (.row .own 3 (Rw GI3.cells x.2.2.2.1))))), (.s 6, some (.v (.sl 640 1 0 x.2.1.length))), (.s 7, some (.v (.sl 896 1 0 x.2.2.1.length))), (.s 8, some (.v (V.int x.2.2.2.2))), (.r 640, some (.o 1 (dd (Rw (cL .own 1 (cI .i64)) x.2.1)))), (.r 896, some (.o 1 (dd (Rw (cI .i64) x.2.2.1))))]) (fun x => x.1) (fun x => Yes (spec_Loops.l1 x.1 x.2.1 x.2.2.1 x.2.2.2.1 x.2.2.2.2) o1) (_, _, _, _, _) ?_ h ?_ ?_
    · exact (by simp [slNL, C.inN, V.inN, V.inNs, V.inNss, inNss_dd, inNs_map_d])
    · simp only [SubL, putSt, lk, lkb, reduceCtorEq, Nat.reduceEqDiff, List.length_set, List.length_replicate]; repeat' (first | apply And.intro | rfl | trivial | (simp only [*]; done))
    rintro ⟨_ | k, a1, a2, a3, a4⟩ h
    · simp only [spec_Loops.l1] at h; exact h.none
    simp only [spec_Loops.l1] at h
    refine sw_gh ?_
    refine gh_nameSlot 5 ?_
    simp only [rxb, Nat.reduceAdd, Nat.reduceLeDiff, resSlotP, nameSlotP, Prog.wp, Prog.wp_bind, Prog.bind, Prog.ofO, putSt, lk, lkb, reduceCtorEq, Nat.reduceEqDiff, resV, resV.go, resV.gol, nameAll, nameP, outP, outT, cntT, V.lin, D.lin, Nat.reduceAdd]
    refine gh_sw ?_
)
 | (with_reducible refine here_next (N0 := 10000000) ?_
    skip
    refine gh_resSlot 5 ?_
    simp only [rxb, Nat.reduceAdd, Nat.reduceLeDiff, resSlotP, nameSlotP, Prog.wp, Prog.wp_bind, Prog.bind, Prog.ofO, putSt, lk, lkb, reduceCtorEq, Nat.reduceEqDiff, resV, resV.go, resV.gol, nameAll, nameP, outP, outT, cntT, V.lin, D.lin, *]
    (try (apply gh_resRow 640; (focus (simp only [putSt, lk, lkb, reduceCtorEq, Nat.reduceEqDiff]; try rfl)); (focus (first | (simp only [Rw_length, List.length_set]; omega) | (simp [Rw_length]; omega))); simp only [rxb, Nat.reduceAdd, Nat.reduceLeDiff, resSlotP, nameSlotP, Prog.wp, Prog.wp_bind, Prog.bind, Prog.ofO, putSt, lk, lkb, reduceCtorEq, Nat.reduceEqDiff, resV, resV.go, resV.gol, nameAll, nameP, outP, outT, cntT, V.lin, D.lin, *, mmb, GI2_Dset, GFunc_Dset, GProgram_Dset, GI3_Dset, LcIi64_Dset]))
    refine nexts_to (_, _, _, _, _) (by decide) ?_ (Nat.lt_succ_self _) h ?_
    · exact (by simp [slNL, C.inN, V.inN, V.inNs, V.inNss, inNss_dd, inNs_map_d])
    · simp only [SubL, putSt, lk, lkb, reduceCtorEq, Nat.reduceEqDiff, List.length_set, List.length_replicate]; repeat' (first | apply And.intro | rfl | trivial | (simp only [*]; done)))
 | with_reducible refine sw_seq ?_
 | with_reducible refine seqQ_ret ?_
 | with_reducible refine seqQ_exit ?_
 | (with_reducible refine gh_nilRow 4 .own 3 ?_ ?_
    · simp only [putSt, lk, lkb, reduceCtorEq, Nat.reduceEqDiff]; done
    skip)
 | ((with_reducible refine wp_ite ?_ ?_)
    all_goals (intro hc; (try (simp only [Bool.not_eq_true, Bool.not_eq_false] at hc)); simp only [hc]))
 | (with_reducible apply regW_skip
    · simp only [dstOk, Nat.reduceLT]
    · rfl
    · simp only [putSt, lk, lkb, reduceCtorEq, Nat.reduceEqDiff]; done)
 | (with_reducible apply regW_yesN
    · simp only [dstOk, Nat.reduceLT]
    · rfl
    · simp only [putSt, lk, lkb, reduceCtorEq, Nat.reduceEqDiff]; done)
 | (with_reducible apply regW_no
    · simp only [dstOk, Nat.reduceLT]
    · rfl
    · simp only [putSt, lk, lkb, reduceCtorEq, Nat.reduceEqDiff, Bool.not_true, Bool.not_false]; done)
 | (with_reducible apply regW_guardN
    · simp only [dstOk, Nat.reduceLT]
    · rfl
    · simp only [putSt, lk, lkb, reduceCtorEq, Nat.reduceEqDiff]; rfl
    all_goals (intro hc; (try (simp only [Bool.not_true, Bool.not_false] at hc))))
 | (with_reducible apply sw_cond
    · simp only [putSt, lk, lkb, reduceCtorEq, Nat.reduceEqDiff]; rfl
    all_goals (intro hc; try (cases hc; done)))
 | ((first
     | ((with_reducible refine gh_ret ?_)
        revert h
        with_reducible refine some_elim ?_
        rintro rfl)
     | (with_reducible refine here_call ?_
        revert h
        with_reducible refine bind_elim ?_
        intro t ht h
        (first
          | (refine call_dataE (c_spec_l04Is ht) ?_ rfl ?_
             · first | rfl | (simp; done))
          | (refine call_dataE (c_spec_l17Preds ht) ?_ rfl ?_
             · first | rfl | (simp; done))
          | (refine call_dataE (c_spec_l17Doms ht) ?_ rfl ?_
             · first | rfl | (simp; done))
          | (refine call_dataE (c_spec_l08Bit ht) ?_ rfl ?_
             · first | rfl | (simp; done))
          | (refine call_autoE (c_spec_l17Body ht) ?_ ?_ ?_
             · simp only [hyb, lendAL, lendA, undd.unddR, D.lendL, D.lend, Md.lend, GI2_lend, GFunc_lend, GProgram_lend, GI3_lend, LcIi64_lend, List.take_of_length_le, putSt, lk, lkb, reduceCtorEq, Nat.reduceEqDiff, *]; first | rfl | done
             · first | rfl | (simp only [V.nb, V.nbL, D.nb, D.nbL, Md.nb, nbb, GI2_nb, GFunc_nb, GProgram_nb, GI3_nb, LcIi64_nb]; done)
             simp only [V.namesOf, V.namesOfL, List.foldl_cons, List.foldl_nil, List.nil_append, List.append_nil, List.cons_append])))
     | ((first | with_reducible apply regD_opLK [(640, none)] (dst := some 69) (op := .call { callee := .value (.func 49), args := _, argTypes := _ }) | with_reducible apply regW_opLK [(640, none)] (dst := some 69) (op := .call { callee := .value (.func 49), args := _, argTypes := _ }))
        · simp only [dstOk, Nat.reduceLT]
        · simp only [Nat.reduceAdd]; rfl
        intro k hk
        with_reducible apply pre_row 640
        · simp only [putSt, lk, lkb, reduceCtorEq, Nat.reduceEqDiff]; rfl
        · first | (simp only [Rw_length, List.length_set]; omega) | (simp [Rw_length]; omega)
        simp only [rxb, Nat.reduceAdd, Nat.reduceLeDiff, resSlotP, nameSlotP, Prog.wp, Prog.wp_bind, Prog.bind, Prog.ofO, putSt, lk, lkb, reduceCtorEq, Nat.reduceEqDiff, resV, resV.go, resV.gol, nameAll, nameP, outP, outT, cntT, V.lin, D.lin, GI2_Dset, GFunc_Dset, GProgram_Dset, GI3_Dset, LcIi64_Dset, *]
        with_reducible apply pre_nil)
     | (with_reducible apply regD_opK
        · simp only [dstOk, Nat.reduceLT]
        · simp only [Nat.reduceAdd]; rfl
        intro k hk)
     | (with_reducible apply regW_opK
        · simp only [dstOk, Nat.reduceLT]
        · simp only [Nat.reduceAdd]; rfl
        intro k hk)
     | skip)
    simp only [RetW, bn, lkb, evb, opC, opP, fetchN, fetchP, fetchAll, fetchO, Prog.bind, Prog.wp, Prog.wp_bind, lk, nameP, nameAll, Value.oneCell', putSt, stepP, putP, reduceCtorEq, V.lin, V.linL, D.lin, isNil, binP, unP, BinOp.isShift, Prog.ofO, Nat.reduceAdd, Nat.reduceMul, Nat.reduceSub, Nat.reduceLT, Nat.reduceLeDiff, Nat.reduceEqDiff, ite_true, ite_false, fieldAddrP, fieldP, indexAddrP, loadP, storeP, boxP, allocP, cellsP, asVal, setSeg, outP, outT, cntT, TyK.field, TyK.agg, zeroRow, V.ren, V.renL, forall_eq_or_imp, forall_const, minmaxP, lenP, lenOf, lenStr, V.asInt, decide_true, decide_false, sliceP, boundP, makeSliceP, convertP, appendP, rowsOfP, ontoP, sizeFits, V.rowSize, TyK.src, resV, resV.go, resV.gol, retP, retOne, retAll, resTo, objsAre, Option.map_eq_map, Function.const_apply, Int.reduceNeg, Int.reduceToNat, ty2, ty3, ty4, ty26, ty28, ty30, ty44, ty49, ty53, ty63, ty65, ty107, GFunc.cells, GI2.cells, GI3.cells, GProgram.cells, cI, cB, cS, cL, GI2_e, GFunc_e, GProgram_e, GI3_e, LcIi64_e, buildP, buildSliceP, putParts, structPlaces, chunks, List.replicate, List.flatten_nil, List.flatten_cons, Option.bind_some, bb, GI2_b, GFunc_b, GProgram_b, GI3_b, LcIi64_b, nilEqP, ne_eq, not_false_eq_true, not_true_eq_false, *]
    try (refine hk.use _ _ _ _ ?_; clear hk k))
 | fail)
  all_goals (try rfl)
  all_goals (try (simp; done))
  all_goals (try (simp_all; done))
def impl_prog_code_v0 (p0 : Gprog) (p1 : Int) : Option ((List GI2) × Gprog) :=
  (idx p0.program.funcs p1).bind fun m1 => some (m1.code, p0)
theorem c_impl_prog_code_v0 {p0 : Gprog} {p1 : Int} {r : (List GI2) × Gprog} (h : impl_prog_code_v0 p0 p1 = some r) : Con Try.prog 50 [.mp 0 2 0 0, V.int p1] [.o 2 [[.d (.row .bor 3 (Rw (GFunc.cells .bor) p0.program.funcs)), .d (.row .own 1 (Rw (cL .own 1 (cI .i64)) p0.h))]]] (.d (.row .bor 2 (Rw GI2.cells r.1))) [.o 2 [[.d (.row .bor 3 (Rw (GFunc.cells .bor) r.2.program.funcs)), .d (.row .own 1 (Rw (cL .own 1 (cI .i64)) r.2.h))]]] := by
  refine con_of_sw Try.func50 rfl Try.call50 (by simp [Try.ntmps50]) (by simp [V.inNs, V.inN]) (by simp [C.inN, V.inNss, V.inNs, V.inN, inNss_dd]) (by simp [V.inNs, V.inN]) (by simp [C.inN, V.inNss, V.inNs, V.inN, inNss_dd]) rfl ?_
  rw [Try.ntmps50, Try.results50]
  unfold impl_prog_code_v0 at h
  replace h := Yes.mk h
  simp only [entryS, entryO, Nat.reduceAdd, List.length_nil, List.length_cons]
  repeat' (first
 | (with_reducible (first | refine sw_reg ?_ | refine sw_ret ?_ | refine sw_skip ?_ | refine sw_block ?_ | refine sw_exit ?_ | refine seqQ_normal ?_ | refine blockQ_normal ?_ | refine blockQ_ret ?_ | refine blockQ_this ?_ | refine blockQ_other (by decide) ?_ | refine regW_nil ?_ | refine sw_draw mixed ?_ | refine retQ_ret ?_ | refine retQ_normal ?_))
 | (with_reducible refine regD_nil ?_
    refine ⟨by kernel_rfl, ?_⟩)
 | (revert h; (first | ((with_reducible refine idx_elim ?_); intro m hm1 hm2 hm3 h; (try (simp only [Int.reduceToNat] at hm3)); (try (revert hm3; (with_reducible apply same_elim); (focus (with_reducible assumption)); rintro rfl)); (try (simp only [List.length_set, List.length_cons, List.length_nil, List.length_replicate, Nat.reduceAdd, Int.cast_ofNat_Int, Nat.zero_add, List.length_append] at hm2))) | (with_reducible refine sidx_elim ?_; intro m hm1 hm3 h) | (with_reducible refine gd_elim ?_; intro hg h; try (have hg2 := hg.2; have hg := hg.1; (try (simp only [Nat.reduceLeDiff] at hg2)); (try (revert hg2; (with_reducible refine toNat_elim hg ?_); intro hg2 hg4)); try (have hg3 := hg2.2; have hg2 := hg2.1; (try (simp only [Nat.reduceLeDiff] at hg3))))) | (with_reducible refine condt_elim ?_ ?_; (focus (with_reducible assumption)); intro h) | (with_reducible refine condf_elim ?_ ?_; (focus (with_reducible assumption)); intro h)))
 | with_reducible refine sw_seq ?_
 | with_reducible refine seqQ_ret ?_
 | with_reducible refine seqQ_exit ?_
 | (with_reducible refine gh_nilRow 4 .own 2 ?_ ?_
    · simp only [putSt, lk, lkb, reduceCtorEq, Nat.reduceEqDiff]; done
    skip)
 | ((with_reducible refine wp_ite ?_ ?_)
    all_goals (intro hc; (try (simp only [Bool.not_eq_true, Bool.not_eq_false] at hc)); simp only [hc]))
 | (with_reducible apply regW_skip
    · simp only [dstOk, Nat.reduceLT]
    · rfl
    · simp only [putSt, lk, lkb, reduceCtorEq, Nat.reduceEqDiff]; done)
 | (with_reducible apply regW_yesN
    · simp only [dstOk, Nat.reduceLT]
    · rfl
    · simp only [putSt, lk, lkb, reduceCtorEq, Nat.reduceEqDiff]; done)
 | (with_reducible apply regW_no
    · simp only [dstOk, Nat.reduceLT]
    · rfl
    · simp only [putSt, lk, lkb, reduceCtorEq, Nat.reduceEqDiff, Bool.not_true, Bool.not_false]; done)
 | (with_reducible apply regW_guardN
    · simp only [dstOk, Nat.reduceLT]
    · rfl
    · simp only [putSt, lk, lkb, reduceCtorEq, Nat.reduceEqDiff]; rfl
    all_goals (intro hc; (try (simp only [Bool.not_true, Bool.not_false] at hc))))
 | (with_reducible apply sw_cond
    · simp only [putSt, lk, lkb, reduceCtorEq, Nat.reduceEqDiff]; rfl
    all_goals (intro hc; try (cases hc; done)))
 | ((first
     | ((with_reducible refine gh_ret ?_)
        revert h
        with_reducible refine some_elim ?_
        rintro rfl)
     | (with_reducible apply regD_opK
        · simp only [dstOk, Nat.reduceLT]
        · simp only [Nat.reduceAdd]; rfl
        intro k hk)
     | (with_reducible apply regW_opK
        · simp only [dstOk, Nat.reduceLT]
        · simp only [Nat.reduceAdd]; rfl
        intro k hk)
     | skip)
    simp only [RetW, bn, lkb, evb, opC, opP, fetchN, fetchP, fetchAll, fetchO, Prog.bind, Prog.wp, Prog.wp_bind, lk, nameP, nameAll, Value.oneCell', putSt, stepP, putP, reduceCtorEq, V.lin, V.linL, D.lin, isNil, binP, unP, BinOp.isShift, Prog.ofO, Nat.reduceAdd, Nat.reduceMul, Nat.reduceSub, Nat.reduceLT, Nat.reduceLeDiff, Nat.reduceEqDiff, ite_true, ite_false, fieldAddrP, fieldP, indexAddrP, loadP, storeP, boxP, allocP, cellsP, asVal, setSeg, outP, outT, cntT, TyK.field, TyK.agg, zeroRow, V.ren, V.renL, forall_eq_or_imp, forall_const, minmaxP, lenP, lenOf, lenStr, V.asInt, decide_true, decide_false, sliceP, boundP, makeSliceP, convertP, appendP, rowsOfP, ontoP, sizeFits, V.rowSize, TyK.src, resV, resV.go, resV.gol, retP, retOne, retAll, resTo, objsAre, Option.map_eq_map, Function.const_apply, Int.reduceNeg, Int.reduceToNat, ty2, ty26, ty28, ty30, ty53, ty63, ty65, ty68, ty107, ty122, GFunc.cells, GI2.cells, GProgram.cells, Gprog.cells, cI, cB, cS, cL, GI2_e, GFunc_e, GProgram_e, Gprog_e, LcIi64_e, nilEqP, ne_eq, not_false_eq_true, not_true_eq_false, *]
    try (refine hk.use _ _ _ _ ?_; clear hk k))
 | fail)
  all_goals (try rfl)
  all_goals (try (simp; done))
  all_goals (try (simp_all; done))
def impl_prog_body.l1 (rec : Gprog → Int → Int → Int → Int → Option (Int)) : Nat → (List Int) → Gprog → Int → Int → Int → Int → Int → Option (Int)
  | 0, _, _, _, _, _, _, _ => none
  | k + 1, a1, a2, a3, a4, a5, a6, a7 => cond ((decide (a7 < a6))) ((idx a1 a7).bind fun m2 => (rec a2 a3 a4 m2 a5).bind fun t3 => impl_prog_body.l1 rec k a1 a2 a3 a4 t3 a6 ((IntKind.i64.wrap (a7 + 1)))) (some (a5))
def impl_prog_body : Nat → Gprog → Int → Int → Int → Int → Option (Int)
  | 0, _, _, _, _, _ => none
  | k + 1, p0, p1, p2, p3, p4 => gd (0 ≤ p3) (cond ((((iand .i64 ((ishr .i64 p4 p3)) 1)) == 1)) (some p4) (gd (0 ≤ p3) ((impl_prog_preds k p0 p1 p3).bind fun t1 => (impl_prog_body.l1 (impl_prog_body k) k t1 p0 p1 p2 ((ior .i64 p4 ((ishl .i64 1 p3)))) ((t1.length : Int)) 0).bind fun o1 => some o1)))
theorem c_impl_prog_body {k : Nat} {p0 : Gprog} {p1 : Int} {p2 : Int} {p3 : Int} {p4 : Int} {r : Int} (h : impl_prog_body k p0 p1 p2 p3 p4 = some r) : Con Try.prog 51 [.d (.ptr .bor [.row .bor 3 (Rw (GFunc.cells .bor) p0.program.funcs), .row .bor 1 (Rw (cL .bor 1 (cI .i64)) p0.h)]), V.int p1, V.int p2, V.int p3, V.int p4] [] (V.int r) [] := by
  induction k generalizing p0 p1 p2 p3 p4 r with
  | zero => simp only [impl_prog_body] at h; cases h
  | succ kr ih =>
  refine con_of_sw Try.func51 rfl Try.call51 (by simp [Try.ntmps51]) (by simp [V.inNs, V.inN]) (by simp [C.inN, V.inNss, V.inNs, V.inN, inNss_dd]) (by simp [V.inNs, V.inN]) (by simp [C.inN, V.inNss, V.inNs, V.inN, inNss_dd]) rfl ?_
  rw [Try.ntmps51, Try.results51]
  simp only [impl_prog_body] at h
  replace h := Yes.mk h
  simp only [entryS, entryO, Nat.reduceAdd, List.length_nil, List.length_cons]
  repeat' (first
 | (with_reducible (first | refine sw_reg ?_ | refine sw_ret ?_ | refine sw_skip ?_ | refine sw_block ?_ | refine sw_exit ?_ | refine seqQ_normal ?_ | refine blockQ_normal ?_ | refine blockQ_ret ?_ | refine blockQ_this ?_ | refine blockQ_other (by decide) ?_ | refine regW_nil ?_ | refine sw_draw mixed ?_ | refine retQ_ret ?_ | refine retQ_normal ?_))
 | (with_reducible refine regD_nil ?_
    refine ⟨by kernel_rfl, ?_⟩)
 | (revert h; (first | ((with_reducible refine idx_elim ?_); intro m hm1 hm2 hm3 h; (try (simp only [Int.reduceToNat] at hm3)); (try (revert hm3; (with_reducible apply same_elim); (focus (with_reducible assumption)); rintro rfl)); (try (simp only [List.length_set, List.length_cons, List.length_nil, List.length_replicate, Nat.reduceAdd, Int.cast_ofNat_Int, Nat.zero_add, List.length_append] at hm2))) | (with_reducible refine sidx_elim ?_; intro m hm1 hm3 h) | (with_reducible refine gd_elim ?_; intro hg h; try (have hg2 := hg.2; have hg := hg.1; (try (simp only [Nat.reduceLeDiff] at hg2)); (try (revert hg2; (with_reducible refine toNat_elim hg ?_); intro hg2 hg4)); try (have hg3 := hg2.2; have hg2 := hg2.1; (try (simp only [Nat.reduceLeDiff] at hg3))))) | (with_reducible refine condt_elim ?_ ?_; (focus (with_reducible assumption)); intro h) | (with_reducible refine condf_elim ?_ ?_; (focus (with_reducible assumption)); intro h)))
 | ((first | with_reducible refine seqQ_ret (K := (fun st1 n1 => Gh st1 n1 (NextS _ 10000000 _ _ _ _))) ?_ | with_reducible refine seqQ_exit (K := (fun st1 n1 => Gh st1 n1 (NextS _ 10000000 _ _ _ _))) ?_)
    obtain rfl := h.get
    have h := hK1
    (try (simp only [Sum.elim_inl, Sum.elim_inr] at h)))
 | (with_reducible refine here_loop (c := (.seq (.region 5 _ _) _)) ?_
    skip
    revert h
    with_reducible refine bind_elimY ?_
    intro o1 h hK1
    refine sw_loop (ι := Nat × (List Int) × Gprog × Int × Int × Int × Int × Int) 10000000 (by decide) (fun x : Nat × (List Int) × Gprog × Int × Int × Int × Int × Int => [(.s 0, some (.v (.d (.ptr .bor [.row .bor 3 (Rw (GFunc.cells .bor) x.2.2.1.program.funcs), .row .bor 1 (Rw (cL .bor 1 (cI .i64)) x.2.2.1.h)])))), (.s 1, some (.v (V.int x.2.2.2.1))), (.s 2, some (.v (V.int x.2.2.2.2.1))), (.s 4, some (.v (V.int x.2.2.2.2.2.1))), (.s 26, some (.v (.sl 896 1 0 x.2.1.length))), (.s 27, some (.v (V.int x.2.2.2.2.2.2.1))), (.s 28, some (.v (V.int x.2.2.2.2.2.2.2))), (.r 896, some (.o 1 (dd (Rw (cI .i64) x.2.1))))]) (fun x => x.1) (fun x => Yes (impl_prog_body.l1 (impl_prog_body kr) x.1 x.2.1 x.2.2.1 x.2.2.2.1 x.2.2.2.2.1 x.2.2.2.2.2.1 x.2.2.2.2.2.2.1 x.2.2.2.2.2.2.2) o1) (_, _, _, _, _, _, _, _) ?_ h ?_ ?_
    · exact (by simp [slNL, C.inN, V.inN, V.inNs, V.inNss, inNss_dd, inNs_map_d])
    · simp only [SubL, putSt, lk, lkb, reduceCtorEq, Nat.reduceEqDiff, List.length_set, List.length_replicate]; repeat' (first | apply And.intro | rfl | trivial | (simp only [*]; done))
    rintro ⟨_ | k, a1, a2, a3, a4, a5, a6, a7⟩ h
    · simp only [impl_prog_body.l1] at h; exact h.none
    simp only [impl_prog_body.l1] at h
)
 | (with_reducible refine here_next (N0 := 10000000) ?_
    skip
    refine nexts_to (_, _, _, _, _, _, _, _) (by decide) ?_ (Nat.lt_succ_self _) h ?_
    · exact (by simp [slNL, C.inN, V.inN, V.inNs, V.inNss, inNss_dd, inNs_map_d])
    · simp only [SubL, putSt, lk, lkb, reduceCtorEq, Nat.reduceEqDiff, List.length_set, List.length_replicate]; repeat' (first | apply And.intro | rfl | trivial | (simp only [*]; done)))
 | with_reducible refine sw_seq ?_
 | with_reducible refine seqQ_ret ?_
 | with_reducible refine seqQ_exit ?_
 | ((with_reducible refine wp_ite ?_ ?_)
    all_goals (intro hc; (try (simp only [Bool.not_eq_true, Bool.not_eq_false] at hc)); simp only [hc]))
 | (with_reducible apply regW_skip
    · simp only [dstOk, Nat.reduceLT]
    · rfl
    · simp only [putSt, lk, lkb, reduceCtorEq, Nat.reduceEqDiff]; done)
 | (with_reducible apply regW_yesN
    · simp only [dstOk, Nat.reduceLT]
    · rfl
    · simp only [putSt, lk, lkb, reduceCtorEq, Nat.reduceEqDiff]; done)
 | (with_reducible apply regW_no
    · simp only [dstOk, Nat.reduceLT]
    · rfl
    · simp only [putSt, lk, lkb, reduceCtorEq, Nat.reduceEqDiff, Bool.not_true, Bool.not_false]; done)
 | (with_reducible apply regW_guardN
    · simp only [dstOk, Nat.reduceLT]
    · rfl
    · simp only [putSt, lk, lkb, reduceCtorEq, Nat.reduceEqDiff]; rfl
    all_goals (intro hc; (try (simp only [Bool.not_true, Bool.not_false] at hc))))
 | (with_reducible apply sw_cond
    · simp only [putSt, lk, lkb, reduceCtorEq, Nat.reduceEqDiff]; rfl
    all_goals (intro hc; try (cases hc; done)))
 | ((first
     | ((with_reducible refine gh_ret ?_)
        revert h
        with_reducible refine some_elim ?_
        rintro rfl)
     | (with_reducible refine here_call ?_
        revert h
        with_reducible refine bind_elim ?_
        intro t ht h
        (first
          | (refine call_dataE (c_impl_prog_preds ht) ?_ rfl ?_
             · first | rfl | (simp; done))
          | (refine call_dataE (ih ht) ?_ rfl ?_
             · first | rfl | (simp; done))))
     | (with_reducible apply regD_opK
        · simp only [dstOk, Nat.reduceLT]
        · simp only [Nat.reduceAdd]; rfl
        intro k hk)
     | (with_reducible apply regW_opK
        · simp only [dstOk, Nat.reduceLT]
        · simp only [Nat.reduceAdd]; rfl
        intro k hk)
     | skip)
    simp only [RetW, bn, lkb, evb, opC, opP, fetchN, fetchP, fetchAll, fetchO, Prog.bind, Prog.wp, Prog.wp_bind, lk, nameP, nameAll, Value.oneCell', putSt, stepP, putP, reduceCtorEq, V.lin, V.linL, D.lin, isNil, binP, unP, BinOp.isShift, Prog.ofO, Nat.reduceAdd, Nat.reduceMul, Nat.reduceSub, Nat.reduceLT, Nat.reduceLeDiff, Nat.reduceEqDiff, ite_true, ite_false, fieldAddrP, fieldP, indexAddrP, loadP, storeP, boxP, allocP, cellsP, asVal, setSeg, outP, outT, cntT, TyK.field, TyK.agg, zeroRow, V.ren, V.renL, forall_eq_or_imp, forall_const, minmaxP, lenP, lenOf, lenStr, V.asInt, decide_true, decide_false, sliceP, boundP, makeSliceP, convertP, appendP, rowsOfP, ontoP, sizeFits, V.rowSize, TyK.src, resV, resV.go, resV.gol, retP, retOne, retAll, resTo, objsAre, Option.map_eq_map, Function.const_apply, Int.reduceNeg, Int.reduceToNat, ty2, ty3, ty26, ty28, ty30, ty53, ty63, ty65, ty68, ty107, ty122, GFunc.cells, GI2.cells, GProgram.cells, Gprog.cells, cI, cB, cS, cL, GI2_e, GFunc_e, GProgram_e, Gprog_e, LcIi64_e, shiftBin_shl, shiftBin_shr, intBin_quo, intBin_rem, Int.reduceLT, Int.reduceEq, not_false_eq_true, Int.not_lt, *]
    try (refine hk.use _ _ _ _ ?_; clear hk k))
 | fail)
  all_goals (try rfl)
  all_goals (try (simp; done))
  all_goals (try (simp_all; done))
def impl_Loops.l3 : Nat → Gprog → (List Int) → (List GI3) → (List Int) → Int → Int → Int → Bool → Int → Int → Int → Int → Option (Gprog × (List Int) × (List GI3) × Int × Int × Int × Bool × Int × Int)
  | 0, _, _, _, _, _, _, _, _, _, _, _, _ => none
  | k + 1, a1, a2, a3, a4, a5, a6, a7, a8, a9, a10, a11, a12 => cond ((decide (a12 < a11))) ((idx a4 a12).bind fun m5 => (idx a2 m5).bind fun m6 => gd (0 ≤ a6) (cond ((((iand .i64 ((ishr .i64 m6 a6)) 1)) == 1)) ((impl_prog_body k a1 a5 a6 m5 a7).bind fun t7 => impl_Loops.l3 k a1 a2 a3 a4 a5 a6 t7 true a9 a10 a11 ((IntKind.i64.wrap (a12 + 1)))) (impl_Loops.l3 k a1 a2 a3 a4 a5 a6 a7 a8 a9 a10 a11 ((IntKind.i64.wrap (a12 + 1)))))) (some (a1, a2, a3, a5, a6, a7, a8, a9, a10))
def impl_Loops.a2 (k : Nat) (a1 : Gprog) (a2 : (List Int)) (a3 : (List GI3)) (a4 : Int) (a5 : Int) (a6 : Int) : Option (Gprog × (List Int) × Int × (List GI3) × Int × Int) :=
  gd (0 ≤ a6) ((impl_prog_preds k a1 a4 a6).bind fun t4 => (impl_Loops.l3 k a1 a2 a3 t4 a4 a6 ((ishl .i64 1 a6)) false a5 a6 ((t4.length : Int)) 0).bind fun o3 => cond o3.2.2.2.2.2.2.1 (gd ((o3.2.2.1.length + 1) * 24 ≤ 35184372088832 ∧ o3.2.2.1.length + 1 ≤ 35184372088832) (some (o3.1, o3.2.1, o3.2.2.2.1, (o3.2.2.1 ++ [(⟨o3.2.2.2.2.1, o3.2.2.2.2.2.1, 0⟩ : GI3)]), o3.2.2.2.2.2.2.2.1, o3.2.2.2.2.2.2.2.2))) (some (o3.1, o3.2.1, o3.2.2.2.1, o3.2.2.1, o3.2.2.2.2.2.2.2.1, o3.2.2.2.2.2.2.2.2)))
def impl_Loops.l1 : Nat → Gprog → (List Int) → Int → (List GI3) → Int → Int → Option ((List GI3))
  | 0, _, _, _, _, _, _ => none
  | k + 1, a1, a2, a3, a4, a5, a6 => cond ((decide (a6 < a5))) ((impl_Loops.a2 k a1 a2 a4 a3 a5 a6).bind fun o2 => impl_Loops.l1 k o2.1 o2.2.1 o2.2.2.1 o2.2.2.2.1 o2.2.2.2.2.1 ((IntKind.i64.wrap (o2.2.2.2.2.2 + 1)))) (some (a4))
def impl_Loops.l5 : Nat → (List GI3) → Int → Int → Int → Int → Int → Option ((List GI3) × Int × Int)
  | 0, _, _, _, _, _, _ => none
  | k + 1, a1, a2, a3, a4, a5, a6 => cond ((decide (a6 < a5))) ((idx a1 a6).bind fun m8 => (idx a1 a2).bind fun m9 => gd (0 ≤ m9.a) (impl_Loops.l5 k ((a1.set a2.toNat ((⟨m9.a, m9.b, (IntKind.i64.wrap (m9.c + ((iand .i64 ((ishr .i64 m8.b m9.a)) 1))))⟩ : GI3)))) a2 a3 a4 a5 ((IntKind.i64.wrap (a6 + 1))))) (some (a1, a3, a4))
def impl_Loops.l4 : Nat → (List GI3) → Int → Int → Option ((List GI3))
  | 0, _, _, _ => none
  | k + 1, a1, a2, a3 => cond ((decide (a3 < a2))) ((impl_Loops.l5 k a1 a3 a2 a3 ((a1.length : Int)) 0).bind fun o5 => impl_Loops.l4 k o5.1 o5.2.1 ((IntKind.i64.wrap (o5.2.2 + 1)))) (some (a1))
def impl_Loops (k : Nat) (p0 : GProgram) (p1 : Int) : Option ((List GI3)) :=
  (impl_knownFunc k p0 p1).bind fun t1 => cond ((!t1.2)) (some []) ((impl_prog_doms k t1.1 p1).bind fun t2 => (impl_prog_code_v0 t1.1 p1).bind fun t3 => (impl_Loops.l1 k t3.2 t2 p1 [] ((t3.1.length : Int)) 0).bind fun o1 => (impl_Loops.l4 k o1 ((o1.length : Int)) 0).bind fun o4 => some o4)
theorem c_impl_Loops {k : Nat} {p0 : GProgram} {p1 : Int} {r : (List GI3)} (h : impl_Loops k p0 p1 = some r) : Con Try.prog 23 [.agg [.d (.row .bor 3 (Rw (GFunc.cells .bor) p0.funcs))], V.int p1] [] (.d (.row .own 3 (Rw GI3.cells r))) [] := by
  refine con_of_sw Try.func23 rfl Try.call23 (by simp [Try.ntmps23]) (by simp [V.inNs, V.inN]) (by simp [C.inN, V.inNss, V.inNs, V.inN, inNss_dd]) (by simp [V.inNs, V.inN]) (by simp [C.inN, V.inNss, V.inNs, V.inN, inNss_dd]) rfl ?_
  rw [Try.ntmps23, Try.results23]
  unfold impl_Loops at h
  replace h := Yes.mk h
  simp only [entryS, entryO, Nat.reduceAdd, List.length_nil, List.length_cons]
  repeat' (first
 | (with_reducible (first | refine sw_reg ?_ | refine sw_ret ?_ | refine sw_skip ?_ | refine sw_block ?_ | refine sw_exit ?_ | refine seqQ_normal ?_ | refine blockQ_normal ?_ | refine blockQ_ret ?_ | refine blockQ_this ?_ | refine blockQ_other (by decide) ?_ | refine regW_nil ?_ | refine sw_draw mixed ?_ | refine retQ_ret ?_ | refine retQ_normal ?_))
 | (with_reducible refine regD_nil ?_
    refine ⟨by kernel_rfl, ?_⟩)
 | (revert h; (first | ((with_reducible refine idx_elim ?_); intro m hm1 hm2 hm3 h; (try (simp only [Int.reduceToNat] at hm3)); (try (revert hm3; (with_reducible apply same_elim); (focus (with_reducible assumption)); rintro rfl)); (try (simp only [List.length_set, List.length_cons, List.length_nil, List.length_replicate, Nat.reduceAdd, Int.cast_ofNat_Int, Nat.zero_add, List.length_append] at hm2))) | (with_reducible refine sidx_elim ?_; intro m hm1 hm3 h) | (with_reducible refine gd_elim ?_; intro hg h; try (have hg2 := hg.2; have hg := hg.1; (try (simp only [Nat.reduceLeDiff] at hg2)); (try (revert hg2; (with_reducible refine toNat_elim hg ?_); intro hg2 hg4)); try (have hg3 := hg2.2; have hg2 := hg2.1; (try (simp only [Nat.reduceLeDiff] at hg3))))) | (with_reducible refine condt_elim ?_ ?_; (focus (with_reducible assumption)); intro h) | (with_reducible refine condf_elim ?_ ?_; (focus (with_reducible assumption)); intro h)))
 | ((first | with_reducible refine seqQ_ret (K := (fun st1 n1 => Gh st1 n1 (NextS _ 30000000 _ _ _ _))) ?_ | with_reducible refine seqQ_exit (K := (fun st1 n1 => Gh st1 n1 (NextS _ 30000000 _ _ _ _))) ?_)
    obtain rfl := h.get
    have h := hK3
    (try (simp only [Sum.elim_inl, Sum.elim_inr] at h)))
 | ((first | with_reducible refine seqQ_ret (K := (fun st1 n1 => Gh st1 n1 (MeetA _ 20000000 _ _))) ?_ | with_reducible refine seqQ_exit (K := (fun st1 n1 => Gh st1 n1 (MeetA _ 20000000 _ _))) ?_)
    obtain rfl := h.get
    have h := hK2
    (try (simp only [Sum.elim_inl, Sum.elim_inr] at h)))
 | ((first | with_reducible refine seqQ_ret (K := (fun st1 n1 => Gh st1 n1 (NextS _ 50000000 _ _ _ _))) ?_ | with_reducible refine seqQ_exit (K := (fun st1 n1 => Gh st1 n1 (NextS _ 50000000 _ _ _ _))) ?_)
    obtain rfl := h.get
    have h := hK5
    (try (simp only [Sum.elim_inl, Sum.elim_inr] at h)))
 | ((first | with_reducible refine seqQ_ret (K := (fun st1 n1 => Gh st1 n1 (NextS _ 40000000 _ _ _ _))) ?_ | with_reducible refine seqQ_exit (K := (fun st1 n1 => Gh st1 n1 (NextS _ 40000000 _ _ _ _))) ?_)
    obtain rfl := h.get
    have h := hK4
    (try (simp only [Sum.elim_inl, Sum.elim_inr] at h)))
 | ((first | with_reducible refine seqQ_ret (K := (fun st1 n1 => Gh st1 n1 (NextS _ 10000000 _ _ _ _))) ?_ | with_reducible refine seqQ_exit (K := (fun st1 n1 => Gh st1 n1 (NextS _ 10000000 _ _ _ _))) ?_)
    obtain rfl := h.get
    have h := hK1
    (try (simp only [Sum.elim_inl, Sum.elim_inr] at h)))
 | (with_reducible refine here_loop (c := (.seq (.region 13 _ _) _)) ?_
    skip
    revert h
    with_reducible refine bind_elimY ?_
    intro o3 h hK3
    refine sw_loop (ι := Nat × Gprog × (List Int) × (List GI3) × (List Int) × Int × Int × Int × Bool × Int × Int × Int × Int) 30000000 (by decide) (fun x : Nat × Gprog × (List Int) × (List GI3) × (List Int) × Int × Int × Int × Bool × Int × Int × Int × Int => [(.s 1, some (.v (V.int x.2.2.2.2.2.1))), (.s 5, some (.v (.mp 256 2 0 0))), (.s 7, some (.v (.sl 896 1 0 x.2.2.1.length))), (.s 8, some (.v (.sl 10000000 3 0 x.2.2.2.1.length))), (.s 10, some (.v (V.int x.2.2.2.2.2.2.1))), (.s 11, some (.v (V.int x.2.2.2.2.2.2.2.1))), (.s 12, some (.v (V.bool x.2.2.2.2.2.2.2.2.1))), (.s 32, some (.v (V.int x.2.2.2.2.2.2.2.2.2.1))), (.s 33, some (.v (V.int x.2.2.2.2.2.2.2.2.2.2.1))), (.s 42, some (.v (.sl 10000832 1 0 x.2.2.2.2.1.length))), (.s 43, some (.v (V.int x.2.2.2.2.2.2.2.2.2.2.2.1))), (.s 44, some (.v (V.int x.2.2.2.2.2.2.2.2.2.2.2.2))), (.r 256, some (.o 2 [[.d (.row .bor 3 (Rw (GFunc.cells .bor) x.2.1.program.funcs)), .d (.row .own 1 (Rw (cL .own 1 (cI .i64)) x.2.1.h))]])), (.r 896, some (.o 1 (dd (Rw (cI .i64) x.2.2.1)))), (.r 10000000, some (.o 3 (dd (Rw GI3.cells x.2.2.2.1)))), (.r 10000832, some (.o 1 (dd (Rw (cI .i64) x.2.2.2.2.1))))]) (fun x => x.1) (fun x => Yes (impl_Loops.l3 x.1 x.2.1 x.2.2.1 x.2.2.2.1 x.2.2.2.2.1 x.2.2.2.2.2.1 x.2.2.2.2.2.2.1 x.2.2.2.2.2.2.2.1 x.2.2.2.2.2.2.2.2.1 x.2.2.2.2.2.2.2.2.2.1 x.2.2.2.2.2.2.2.2.2.2.1 x.2.2.2.2.2.2.2.2.2.2.2.1 x.2.2.2.2.2.2.2.2.2.2.2.2) o3) (_, _, _, _, _, _, _, _, _, _, _, _, _) ?_ h ?_ ?_
    · exact (by simp [slNL, C.inN, V.inN, V.inNs, V.inNss, inNss_dd, inNs_map_d])
    · simp only [SubL, putSt, lk, lkb, reduceCtorEq, Nat.reduceEqDiff, List.length_set, List.length_replicate]; repeat' (first | apply And.intro | rfl | trivial | (simp only [*]; done))
    rintro ⟨_ | k, a1, a2, a3, a4, a5, a6, a7, a8, a9, a10, a11, a12⟩ h
    · simp only [impl_Loops.l3] at h; exact h.none
    simp only [impl_Loops.l3] at h
)
 | (with_reducible refine here_next (N0 := 30000000) ?_
    skip
    refine nexts_to (_, _, _, _, _, _, _, _, _, _, _, _, _) (by decide) ?_ (Nat.lt_succ_self _) h ?_
    · exact (by simp [slNL, C.inN, V.inN, V.inNs, V.inNss, inNss_dd, inNs_map_d])
    · simp only [SubL, putSt, lk, lkb, reduceCtorEq, Nat.reduceEqDiff, List.length_set, List.length_replicate]; repeat' (first | apply And.intro | rfl | trivial | (simp only [*]; done)))
 | (with_reducible refine here_join (a := (.block 1 _)) (b := (.region 21 _ _)) ?_
    skip
    revert h
    with_reducible refine bind_elimY ?_
    intro o2 h hK2
    unfold impl_Loops.a2 at h
    refine sw_join (ι := Gprog × (List Int) × Int × (List GI3) × Int × Int) 20000000 (fun x : Gprog × (List Int) × Int × (List GI3) × Int × Int => [(.s 1, some (.v (V.int x.2.2.1))), (.s 5, some (.v (.mp 256 2 0 0))), (.s 7, some (.v (.sl 896 1 0 x.2.1.length))), (.s 8, some (.v (.d (.row .own 3 (Rw GI3.cells x.2.2.2.1))))), (.s 32, some (.v (V.int x.2.2.2.2.1))), (.s 33, some (.v (V.int x.2.2.2.2.2))), (.r 256, some (.o 2 [[.d (.row .bor 3 (Rw (GFunc.cells .bor) x.1.program.funcs)), .d (.row .own 1 (Rw (cL .own 1 (cI .i64)) x.1.h))]])), (.r 896, some (.o 1 (dd (Rw (cI .i64) x.2.1))))]) (fun x => Yes (some (x)) o2) ?_ ?_
    rotate_left
    rintro ⟨b1, b2, b3, b4, b5, b6⟩ h
    obtain rfl := h.get
    have h := hK2
    (try (simp only [Sum.elim_inl, Sum.elim_inr] at h))
    refine sw_gh ?_
    refine gh_nameSlot 8 ?_
    simp only [rxb, Nat.reduceAdd, Nat.reduceLeDiff, resSlotP, nameSlotP, Prog.wp, Prog.wp_bind, Prog.bind, Prog.ofO, putSt, lk, lkb, reduceCtorEq, Nat.reduceEqDiff, resV, resV.go, resV.gol, nameAll, nameP, outP, outT, cntT, V.lin, D.lin, Nat.reduceAdd]
    refine gh_sw ?_
    skip)
 | (with_reducible refine here_meet (N0 := 20000000) ?_
    skip
    refine gh_resSlot 8 ?_
    simp only [rxb, Nat.reduceAdd, Nat.reduceLeDiff, resSlotP, nameSlotP, Prog.wp, Prog.wp_bind, Prog.bind, Prog.ofO, putSt, lk, lkb, reduceCtorEq, Nat.reduceEqDiff, resV, resV.go, resV.gol, nameAll, nameP, outP, outT, cntT, V.lin, D.lin, *]
    refine meet_to (_, _, _, _, _, _) (by decide) ?_ h ?_
    · exact (by simp [slNL, C.inN, V.inN, V.inNs, V.inNss, inNss_dd, inNs_map_d])
    · simp only [SubL, putSt, lk, lkb, reduceCtorEq, Nat.reduceEqDiff, List.length_set, List.length_replicate]; repeat' (first | apply And.intro | rfl | trivial | (simp only [*]; done)))
 | (with_reducible refine here_loop (c := (.seq (.region 26 _ _) _)) ?_
    skip
    revert h
    with_reducible refine bind_elimY ?_
    intro o5 h hK5
    refine sw_loop (ι := Nat × (List GI3) × Int × Int × Int × Int × Int) 50000000 (by decide) (fun x : Nat × (List GI3) × Int × Int × Int × Int × Int => [(.s 8, some (.v (.sl 10000000 3 0 x.2.1.length))), (.s 15, some (.v (V.int x.2.2.1))), (.s 72, some (.v (V.int x.2.2.2.1))), (.s 73, some (.v (V.int x.2.2.2.2.1))), (.s 76, some (.v (.sl 10000000 3 0 x.2.1.length))), (.s 77, some (.v (V.int x.2.2.2.2.2.1))), (.s 78, some (.v (V.int x.2.2.2.2.2.2))), (.r 10000000, some (.o 3 (dd (Rw GI3.cells x.2.1))))]) (fun x => x.1) (fun x => Yes (impl_Loops.l5 x.1 x.2.1 x.2.2.1 x.2.2.2.1 x.2.2.2.2.1 x.2.2.2.2.2.1 x.2.2.2.2.2.2) o5) (_, _, _, _, _, _, _) ?_ h ?_ ?_
    · exact (by simp [slNL, C.inN, V.inN, V.inNs, V.inNss, inNss_dd, inNs_map_d])
    · simp only [SubL, putSt, lk, lkb, reduceCtorEq, Nat.reduceEqDiff, List.length_set, List.length_replicate]; repeat' (first | apply And.intro | rfl | trivial | (simp only [*]; done))
    rintro ⟨_ | k, a1, a2, a3, a4, a5, a6⟩ h
    · simp only [impl_Loops.l5] at h; exact h.none
    simp only [impl_Loops.l5] at h
)
 | (with_reducible refine here_next (N0 := 50000000) ?_
    skip
    refine nexts_to (_, _, _, _, _, _, _) (by decide) ?_ (Nat.lt_succ_self _) h ?_
    · exact (by simp [slNL, C.inN, V.inN, V.inNs, V.inNss, inNss_dd, inNs_map_d])
    · simp only [SubL, putSt, lk, lkb, reduceCtorEq, Nat.reduceEqDiff, List.length_set, List.length_replicate]; repeat' (first | apply And.intro | rfl | trivial | (simp only [*]; done)))
 | (with_reducible refine here_loop (c := (.seq (.region 23 _ _) _)) ?_
    skip
    revert h
    with_reducible refine bind_elimY ?_
    intro o4 h hK4
    refine sw_loop (ι := Nat × (List GI3) × Int × Int) 40000000 (by decide) (fun x : Nat × (List GI3) × Int × Int => [(.s 8, some (.v (.sl 10000000 3 0 x.2.1.length))), (.s 72, some (.v (V.int x.2.2.1))), (.s 73, some (.v (V.int x.2.2.2))), (.r 10000000, some (.o 3 (dd (Rw GI3.cells x.2.1))))]) (fun x => x.1) (fun x => Yes (impl_Loops.l4 x.1 x.2.1 x.2.2.1 x.2.2.2) o4) (_, _, _, _) ?_ h ?_ ?_
    · exact (by simp [slNL, C.inN, V.inN, V.inNs, V.inNss, inNss_dd, inNs_map_d])
    · simp only [SubL, putSt, lk, lkb, reduceCtorEq, Nat.reduceEqDiff, List.length_set, List.length_replicate]; repeat' (first | apply And.intro | rfl | trivial | (simp only [*]; done))
    rintro ⟨_ | k, a1, a2, a3⟩ h
    · simp only [impl_Loops.l4] at h; exact h.none
    simp only [impl_Loops.l4] at h
)
 | (with_reducible refine here_next (N0 := 40000000) ?_
    skip
    refine nexts_to (_, _, _, _) (by decide) ?_ (Nat.lt_succ_self _) h ?_
    · exact (by simp [slNL, C.inN, V.inN, V.inNs, V.inNss, inNss_dd, inNs_map_d])
    · simp only [SubL, putSt, lk, lkb, reduceCtorEq, Nat.reduceEqDiff, List.length_set, List.length_replicate]; repeat' (first | apply And.intro | rfl | trivial | (simp only [*]; done)))
 | (with_reducible refine here_loop (c := (.seq (.region 7 _ _) _)) ?_
    skip
    revert h
    with_reducible refine bind_elimY ?_
    intro o1 h hK1
    refine sw_gh ?_
    (try (refine gh_nilRow 8 .own 3 ?_ ?_; (focus (simp only [putSt, lk, lkb, reduceCtorEq, Nat.reduceEqDiff]; done))))
    refine gh_resSlot 8 ?_
    simp only [rxb, Nat.reduceAdd, Nat.reduceLeDiff, resSlotP, nameSlotP, Prog.wp, Prog.wp_bind, Prog.bind, Prog.ofO, putSt, lk, lkb, reduceCtorEq, Nat.reduceEqDiff, resV, resV.go, resV.gol, nameAll, nameP, outP, outT, cntT, V.lin, D.lin, *]
    refine gh_sw ?_
    refine sw_loop (ι := Nat × Gprog × (List Int) × Int × (List GI3) × Int × Int) 10000000 (by decide) (fun x : Nat × Gprog × (List Int) × Int × (List GI3) × Int × Int => [(.s 1, some (.v (V.int x.2.2.2.1))), (.s 5, some (.v (.mp 256 2 0 0))), (.s 7, some (.v (.sl 896 1 0 x.2.2.1.length))), (.s 8, some (.v (.d (.row .own 3 (Rw GI3.cells x.2.2.2.2.1))))), (.s 32, some (.v (V.int x.2.2.2.2.2.1))), (.s 33, some (.v (V.int x.2.2.2.2.2.2))), (.r 256, some (.o 2 [[.d (.row .bor 3 (Rw (GFunc.cells .bor) x.2.1.program.funcs)), .d (.row .own 1 (Rw (cL .own 1 (cI .i64)) x.2.1.h))]])), (.r 896, some (.o 1 (dd (Rw (cI .i64) x.2.2.1))))]) (fun x => x.1) (fun x => Yes (impl_Loops.l1 x.1 x.2.1 x.2.2.1 x.2.2.2.1 x.2.2.2.2.1 x.2.2.2.2.2.1 x.2.2.2.2.2.2) o1) (_, _, _, _, _, _, _) ?_ h ?_ ?_
    · exact (by simp [slNL, C.inN, V.inN, V.inNs, V.inNss, inNss_dd, inNs_map_d])
    · simp only [SubL, putSt, lk, lkb, reduceCtorEq, Nat.reduceEqDiff, List.length_set, List.length_replicate]; repeat' (first | apply And.intro | rfl | trivial | (simp only [*]; done))
    rintro ⟨_ | k, a1, a2, a3, a4, a5, a6⟩ h
    · simp only [impl_Loops.l1] at h; exact h.none
    simp only [impl_Loops.l1] at h
    refine sw_gh ?_
    refine gh_nameSlot 8 ?_
    simp only [rxb, Nat.reduceAdd, Nat.reduceLeDiff, resSlotP, nameSlotP, Prog.wp, Prog.wp_bind, Prog.bind, Prog.ofO, putSt, lk, lkb, reduceCtorEq, Nat.reduceEqDiff, resV, resV.go, resV.gol, nameAll, nameP, outP, outT, cntT, V.lin, D.lin, Nat.reduceAdd]
    refine gh_sw ?_
)
 | (with_reducible refine here_next (N0 := 10000000) ?_
    skip
    (try (refine gh_nilRow 8 .own 3 ?_ ?_; (focus (simp only [putSt, lk, lkb, reduceCtorEq, Nat.reduceEqDiff]; done))))
    refine gh_resSlot 8 ?_
    simp only [rxb, Nat.reduceAdd, Nat.reduceLeDiff, resSlotP, nameSlotP, Prog.wp, Prog.wp_bind, Prog.bind, Prog.ofO, putSt, lk, lkb, reduceCtorEq, Nat.reduceEqDiff, resV, resV.go, resV.gol, nameAll, nameP, outP, outT, cntT, V.lin, D.lin, *]
    refine nexts_to (_, _, _, _, _, _, _) (by decide) ?_ (Nat.lt_succ_self _) h ?_
    · exact (by simp [slNL, C.inN, V.inN, V.inNs, V.inNss, inNss_dd, inNs_map_d])
    · simp only [SubL, putSt, lk, lkb, reduceCtorEq, Nat.reduceEqDiff, List.length_set, List.length_replicate]; repeat' (first | apply And.intro | rfl | trivial | (simp only [*]; done)))
 | with_reducible refine sw_seq ?_
 | with_reducible refine seqQ_ret ?_
 | with_reducible refine seqQ_exit ?_
 | (with_reducible refine gh_nilRow 4 .own 3 ?_ ?_
    · simp only [putSt, lk, lkb, reduceCtorEq, Nat.reduceEqDiff]; done
    skip)
 | ((with_reducible refine wp_ite ?_ ?_)
    all_goals (intro hc; (try (simp only [Bool.not_eq_true, Bool.not_eq_false] at hc)); simp only [hc]))
 | (with_reducible apply regW_skip
    · simp only [dstOk, Nat.reduceLT]
    · rfl
    · simp only [putSt, lk, lkb, reduceCtorEq, Nat.reduceEqDiff]; done)
 | (with_reducible apply regW_yesN
    · simp only [dstOk, Nat.reduceLT]
    · rfl
    · simp only [putSt, lk, lkb, reduceCtorEq, Nat.reduceEqDiff]; done)
 | (with_reducible apply regW_no
    · simp only [dstOk, Nat.reduceLT]
    · rfl
    · simp only [putSt, lk, lkb, reduceCtorEq, Nat.reduceEqDiff, Bool.not_true, Bool.not_false]; done)
 | (with_reducible apply regW_guardN
    · simp only [dstOk, Nat.reduceLT]
    · rfl
    · simp only [putSt, lk, lkb, reduceCtorEq, Nat.reduceEqDiff]; rfl
    all_goals (intro hc; (try (simp only [Bool.not_true, Bool.not_false] at hc))))
 | (with_reducible apply sw_cond
    · simp only [putSt, lk, lkb, reduceCtorEq, Nat.reduceEqDiff]; rfl
    all_goals (intro hc; try (cases hc; done)))
 | ((first
     | ((with_reducible refine gh_ret ?_)
        revert h
        with_reducible refine some_elim ?_
        rintro rfl)
     | (with_reducible refine here_call ?_
        revert h
        with_reducible refine bind_elim ?_
        intro t ht h
        (first
          | (refine call_dataE (c_impl_knownFunc ht) ?_ rfl ?_
             · first | rfl | (simp; done))
          | (refine call_autoE (c_impl_prog_preds ht) ?_ ?_ ?_
             · simp only [hyb, lendAL, lendA, undd.unddR, D.lendL, D.lend, Md.lend, GI2_lend, GFunc_lend, GProgram_lend, Gprog_lend, GI3_lend, LcIi64_lend, List.take_of_length_le, putSt, lk, lkb, reduceCtorEq, Nat.reduceEqDiff, *]; first | rfl | done
             · first | rfl | (simp only [V.nb, V.nbL, D.nb, D.nbL, Md.nb, nbb, GI2_nb, GFunc_nb, GProgram_nb, Gprog_nb, GI3_nb, LcIi64_nb]; done)
             simp only [V.namesOf, V.namesOfL, List.foldl_cons, List.foldl_nil, List.nil_append, List.append_nil, List.cons_append])
          | (refine call_autoE (c_impl_prog_doms ht) ?_ ?_ ?_
             · simp only [hyb, lendAL, lendA, undd.unddR, D.lendL, D.lend, Md.lend, GI2_lend, GFunc_lend, GProgram_lend, Gprog_lend, GI3_lend, LcIi64_lend, List.take_of_length_le, putSt, lk, lkb, reduceCtorEq, Nat.reduceEqDiff, *]; first | rfl | done
             · first | rfl | (simp only [V.nb, V.nbL, D.nb, D.nbL, Md.nb, nbb, GI2_nb, GFunc_nb, GProgram_nb, Gprog_nb, GI3_nb, LcIi64_nb]; done)
             simp only [V.namesOf, V.namesOfL, List.foldl_cons, List.foldl_nil, List.nil_append, List.append_nil, List.cons_append])
          | (refine call_obj [256] (c_impl_prog_code_v0 ht) (by decide) ?_ ?_
             · first | exact .inl rfl | (refine .inr ⟨?_, ?_⟩; (focus (first | rfl | (simp only [V.nb, V.nbL, D.nb, D.nbL, Md.nb, nbb, GI2_nb, GFunc_nb, GProgram_nb, Gprog_nb, GI3_nb, LcIi64_nb]; done))); (focus (simp [C.nb, V.nbLL, V.nbL, V.nb, D.nb]; done)))
             simp only [argsP, argP, V.namesOf, V.namesOfL, List.mem_append, List.append_nil, List.mem_cons, or_false, or_true, true_or, objsP, C.ren, V.ren, V.renL, renLL_dd, V.renLL, List.getD_cons_zero, List.getD_cons_succ, C.o.injEq, hyb, lendAL, lendA, undd.unddR, D.lendL, D.lend, Md.lend, GI2_lend, GFunc_lend, GProgram_lend, Gprog_lend, GI3_lend, LcIi64_lend, putSt, lk, lkb, reduceCtorEq, Nat.reduceEqDiff, Prog.wp, Prog.wp_bind, Prog.bind, Prog.ofO, List.take_of_length_le, *])
          | (refine call_autoE (c_impl_prog_body ht) ?_ ?_ ?_
             · simp only [hyb, lendAL, lendA, undd.unddR, D.lendL, D.lend, Md.lend, GI2_lend, GFunc_lend, GProgram_lend, Gprog_lend, GI3_lend, LcIi64_lend, List.take_of_length_le, putSt, lk, lkb, reduceCtorEq, Nat.reduceEqDiff, *]; first | rfl | done
             · first | rfl | (simp only [V.nb, V.nbL, D.nb, D.nbL, Md.nb, nbb, GI2_nb, GFunc_nb, GProgram_nb, Gprog_nb, GI3_nb, LcIi64_nb]; done)
             simp only [V.namesOf, V.namesOfL, List.foldl_cons, List.foldl_nil, List.nil_append, List.append_nil, List.cons_append])))
     | (with_reducible apply regD_opK
        · simp only [dstOk, Nat.reduceLT]
        · simp only [Nat.reduceAdd]; rfl
        intro k hk)
     | (with_reducible apply regW_opK
        · simp only [dstOk, Nat.reduceLT]
        · simp only [Nat.reduceAdd]; rfl
        intro k hk)
     | skip)
    simp only [RetW, bn, lkb, evb, opC, opP, fetchN, fetchP, fetchAll, fetchO, Prog.bind, Prog.wp, Prog.wp_bind, lk, nameP, nameAll, Value.oneCell', putSt, stepP, putP, reduceCtorEq, V.lin, V.linL, D.lin, isNil, binP, unP, BinOp.isShift, Prog.ofO, Nat.reduceAdd, Nat.reduceMul, Nat.reduceSub, Nat.reduceLT, Nat.reduceLeDiff, Nat.reduceEqDiff, ite_true, ite_false, fieldAddrP, fieldP, indexAddrP, loadP, storeP, boxP, allocP, cellsP, asVal, setSeg, outP, outT, cntT, TyK.field, TyK.agg, zeroRow, V.ren, V.renL, forall_eq_or_imp, forall_const, minmaxP, lenP, lenOf, lenStr, V.asInt, decide_true, decide_false, sliceP, boundP, makeSliceP, convertP, appendP, rowsOfP, ontoP, sizeFits, V.rowSize, TyK.src, resV, resV.go, resV.gol, retP, retOne, retAll, resTo, objsAre, Option.map_eq_map, Function.const_apply, Int.reduceNeg, Int.reduceToNat, ty2, ty3, ty4, ty26, ty28, ty30, ty44, ty49, ty53, ty63, ty65, ty68, ty107, ty122, GFunc.cells, GI2.cells, GI3.cells, GProgram.cells, Gprog.cells, cI, cB, cS, cL, GI2_e, GFunc_e, GProgram_e, Gprog_e, GI3_e, LcIi64_e, buildP, buildSliceP, putParts, structPlaces, chunks, List.replicate, List.flatten_nil, List.flatten_cons, Option.bind_some, bb, GI2_b, GFunc_b, GProgram_b, Gprog_b, GI3_b, LcIi64_b, shiftBin_shl, shiftBin_shr, intBin_quo, intBin_rem, Int.reduceLT, Int.reduceEq, not_false_eq_true, Int.not_lt, nilEqP, ne_eq, not_false_eq_true, not_true_eq_false, *]
    try (refine hk.use _ _ _ _ ?_; clear hk k))
 | fail)
  all_goals (try rfl)
  all_goals (try (simp; done))
  all_goals (try (simp_all; done))
def laws_eqLoop (p0 : GI3) (p1 : GI3) : Option (Bool) :=
  cond ((p0.a != p1.a)) (some false) (cond ((p0.b != p1.b)) (some false) (cond ((p0.c != p1.c)) (some false) (some true)))
def laws_eqLoopS.l1 : Nat → (List GI3) → (List GI3) → Int → Option ((Bool) ⊕ (Unit))
  | 0, _, _, _ => none
  | k + 1, a1, a2, a3 => cond ((decide (a3 < ((a1.length : Int))))) ((idx a1 a3).bind fun m1 => (idx a2 a3).bind fun m2 => (laws_eqLoop m1 m2).bind fun t3 => cond ((!t3)) (some (.inl (false))) (laws_eqLoopS.l1 k a1 a2 ((IntKind.i64.wrap (a3 + 1))))) (some (.inr ()))
def laws_eqLoopS (k : Nat) (p0 : (List GI3)) (p1 : (List GI3)) : Option (Bool) :=
  cond ((((p0.length : Int)) != ((p1.length : Int)))) (some false) ((laws_eqLoopS.l1 k p0 p1 0).bind fun o1 => Sum.elim (fun o1l => some o1l) (fun o1r => some true) o1)
def laws_markLoopS.l1 : Nat → (List GI3) → Int → Int → Option ((List GI3) × Int)
  | 0, _, _, _ => none
  | k + 1, a1, a2, a3 => cond ((decide (a3 < ((a1.length : Int))))) ((idx a1 a3).bind fun m1 => laws_markLoopS.l1 k ((a1.set a3.toNat ((⟨a2, (IntKind.i64.wrap (a2 + 1)), (IntKind.i64.wrap (((IntKind.i64.wrap (a2 + 1))) + 1))⟩ : GI3)))) ((IntKind.i64.wrap (((IntKind.i64.wrap (((IntKind.i64.wrap (a2 + 1))) + 1))) + 1))) ((IntKind.i64.wrap (a3 + 1)))) (some (a1, a2))
def laws_markLoopS (k : Nat) (p0 : (List GI3)) (p1 : Int) : Option (Int × (List GI3)) :=
  (laws_markLoopS.l1 k p0 p1 0).bind fun o1 => some (o1.2, o1.1)
def laws_heldLoopS.l1 : Nat → (List GI3) → Int → Int → Option ((Int) ⊕ (Int))
  | 0, _, _, _ => none
  | k + 1, a1, a2, a3 => cond ((decide (a3 < ((a1.length : Int))))) ((idx a1 a3).bind fun m1 => cond ((m1.a != a2)) (some (.inl ((-1)))) (cond ((m1.b != ((IntKind.i64.wrap (a2 + 1))))) (some (.inl ((-1)))) (cond ((m1.c != ((IntKind.i64.wrap (((IntKind.i64.wrap (a2 + 1))) + 1))))) (some (.inl ((-1)))) (laws_heldLoopS.l1 k a1 ((IntKind.i64.wrap (((IntKind.i64.wrap (((IntKind.i64.wrap (a2 + 1))) + 1))) + 1))) ((IntKind.i64.wrap (a3 + 1))))))) (some (.inr (a2)))
def laws_heldLoopS (k : Nat) (p0 : (List GI3)) (p1 : Int) : Option (Int) :=
  (laws_heldLoopS.l1 k p0 p1 0).bind fun o1 => Sum.elim (fun o1l => some o1l) (fun o1r => some o1r) o1
end Go.Proofs.Ytdlaplgofgklnaa
namespace Go.Proofs.Ytdlaplgofgklnaa
open Go.Proofs Go.Proofs.Ytdlaplgofgklnaa.L
set_option maxHeartbeats 8000000
set_option linter.unusedSimpArgs false
set_option linter.unusedVariables false
set_option maxRecDepth 100000
def laws_FnExactLoops.a1 (k : Nat) (a1 : (List GFunc)) (a2 : (List GI3)) (a3 : (List GI3)) (a4 : Int) (a5 : Int) : Option ((Bool) ⊕ ((List GFunc) × (List GI3) × (List GI3) × Int)) :=
  cond ((decide (a5 < 0))) (some (.inl (false))) ((laws_eqLoopS k a3 a2).bind fun t10 => cond ((!t10)) (some (.inl (false))) (some (.inr (a1, a2, a3, a4))))
def laws_FnExactLoops (k : Nat) (p0 : GProgram) (p1 : Int) : Option (Bool) :=
  (laws_szProgram k p0 1048576).bind fun t1 => cond ((decide (t1 < 0))) (some true) ((laws_toProgram k p0).bind fun t2 => (spec_Loops k t2 p1).bind fun t3 => (laws_toProgram k p0).bind fun t4 => (impl_Loops k t4 p1).bind fun t5 => (laws_eqLoopS k t5 t3).bind fun t6 => cond ((!t6)) (some false) ((laws_toProgram k p0).bind fun t7 => (laws_eqProgram k t4 t7).bind fun t8 => cond ((!t8)) (some false) ((laws_markProgram k t4 1).bind fun t9 => gd (t9.2.length = t4.funcs.length) ((laws_FnExactLoops.a1 k p0.funcs t3 t5 p1 t9.1).bind fun o1 => Sum.elim (fun o1l => some o1l) (fun o1r => (laws_markLoopS k o1r.2.2.1 1).bind fun t11 => gd (t11.2.length = o1r.2.2.1.length) ((laws_heldLoopS k t11.2 1).bind fun t12 => cond ((decide (t12 < 0))) (some false) (cond ((t12 != t11.1)) (some false) ((laws_toProgram k ((⟨o1r.1⟩ : GProgram))).bind fun t13 => (impl_Loops k t13 o1r.2.2.2).bind fun t14 => (laws_eqLoopS k t14 o1r.2.1).bind fun t15 => cond ((!t15)) (some false) ((laws_heldLoopS k t11.2 1).bind fun t16 => cond ((decide (t16 < 0))) (some false) (cond ((t16 != t11.1)) (some false) (some true))))))) o1))))
end Go.Proofs.Ytdlaplgofgklnaa
namespace Go.Proofs.Ytdlaplgofgklnaa
open Go.Proofs Go.Proofs.Ytdlaplgofgklnaa.L
set_option maxHeartbeats 1000000
set_option linter.unusedSimpArgs false
set_option linter.unusedVariables false
set_option maxRecDepth 100000
def spec_l01Source.a2 (k : Nat) (a1 : Gl01Src) (a2 : (List Int)) (a3 : Int) : Option ((Gl01Src × (List Int) × Int) ⊕ (Gl01Src × (List Int))) :=
  cond ((decide (a3 < ((a2.length : Int))))) (cond ((decide (a3 < 64))) (some (.inl (a1, a2, a3))) (some (.inr (a1, a2)))) (some (.inr (a1, a2)))
def spec_l01Source.l1 : Nat → Gl01Src → (List Int) → Int → Option (Gl01Src × (List Int))
  | 0, _, _, _ => none
  | k + 1, a1, a2, a3 => (spec_l01Source.a2 k a1 a2 a3).bind fun o2 => Sum.elim (fun o2l => (idx o2l.2.1 o2l.2.2).bind fun m1 => spec_l01Source.l1 k ((⟨o2l.1.b, o2l.1.at0, (IntKind.u64.wrap (((ixor .u64 o2l.1.mix ((IntKind.u64.wrap m1)))) * 1099511628211)), o2l.1.size⟩ : Gl01Src)) o2l.2.1 ((IntKind.i64.wrap (o2l.2.2 + 1)))) (fun o2r => some (o2r.1, o2r.2)) o2
def spec_l01Source (k : Nat) (p0 : (List Int)) : Option (Gl01Src) :=
  (spec_l01Source.l1 k ((⟨p0, 0, 88172645463325252, 0⟩ : Gl01Src)) p0 0).bind fun o1 => cond ((decide (((iquo .i64 ((o1.2.length : Int)) 20)) > 12))) (some ((⟨o1.1.b, o1.1.at0, o1.1.mix, 12⟩ : Gl01Src))) (some ((⟨o1.1.b, o1.1.at0, o1.1.mix, (iquo .i64 ((o1.2.length : Int)) 20)⟩ : Gl01Src)))
theorem c_spec_l01Source {k : Nat} {p0 : (List Int)} {r : Gl01Src} (h : spec_l01Source k p0 = some r) : Con Try.prog 76 [.d (.row .bor 1 (Rw (cI .u8) p0))] [] (.d (.ptr .own [.row .bor 1 (Rw (cI .u8) r.b), .p (.int .i64 r.at0), .p (.int .u64 r.mix), .p (.int .i64 r.size)])) [] := by
  refine con_of_sw Try.func76 rfl Try.call76 (by simp [Try.ntmps76]) (by simp [V.inNs, V.inN]) (by simp [C.inN, V.inNss, V.inNs, V.inN, inNss_dd]) (by simp [V.inNs, V.inN]) (by simp [C.inN, V.inNss, V.inNs, V.inN, inNss_dd]) rfl ?_
  rw [Try.ntmps76, Try.results76]
  unfold spec_l01Source at h
  replace h := Yes.mk h
  simp only [entryS, entryO, Nat.reduceAdd, List.length_nil, List.length_cons]
  repeat' (first
 | (with_reducible (first | refine sw_reg ?_ | refine sw_ret ?_ | refine sw_skip ?_ | refine sw_block ?_ | refine sw_exit ?_ | refine seqQ_normal ?_ | refine blockQ_normal ?_ | refine blockQ_ret ?_ | refine blockQ_this ?_ | refine blockQ_other (by decide) ?_ | refine regW_nil ?_ | refine sw_draw mixed ?_ | refine retQ_ret ?_ | refine retQ_normal ?_))
 | (with_reducible refine regD_nil ?_
    refine ⟨by kernel_rfl, ?_⟩)
 | (revert h; (first | ((with_reducible refine idx_elim ?_); intro m hm1 hm2 hm3 h; (try (simp only [Int.reduceToNat] at hm3)); (try (revert hm3; (with_reducible apply same_elim); (focus (with_reducible assumption)); rintro rfl)); (try (simp only [List.length_set, List.length_cons, List.length_nil, List.length_replicate, Nat.reduceAdd, Int.cast_ofNat_Int, Nat.zero_add, List.length_append] at hm2))) | (with_reducible refine sidx_elim ?_; intro m hm1 hm3 h) | (with_reducible refine gd_elim ?_; intro hg h; try (have hg2 := hg.2; have hg := hg.1; (try (simp only [Nat.reduceLeDiff] at hg2)); (try (revert hg2; (with_reducible refine toNat_elim hg ?_); intro hg2 hg4)); try (have hg3 := hg2.2; have hg2 := hg2.1; (try (simp only [Nat.reduceLeDiff] at hg3))))) | (with_reducible refine condt_elim ?_ ?_; (focus (with_reducible assumption)); intro h) | (with_reducible refine condf_elim ?_ ?_; (focus (with_reducible assumption)); intro h)))
 | ((first | with_reducible refine seqQ_ret (K := (fun st1 n1 => Gh st1 n1 (MeetA _ 20000000 _ _))) ?_ | with_reducible refine seqQ_exit (K := (fun st1 n1 => Gh st1 n1 (MeetA _ 20000000 _ _))) ?_)
    obtain rfl := h.get
    have h := hK2
    (try (simp only [Sum.elim_inl, Sum.elim_inr] at h)))
 | ((first | with_reducible refine seqQ_ret (K := (fun st1 n1 => Gh st1 n1 (NextS _ 10000000 _ _ _ _))) ?_ | with_reducible refine seqQ_exit (K := (fun st1 n1 => Gh st1 n1 (NextS _ 10000000 _ _ _ _))) ?_)
    obtain rfl := h.get
    have h := hK1
    (try (simp only [Sum.elim_inl, Sum.elim_inr] at h)))
 | (with_reducible refine here_join (a := (.seq (.region 3 _ _) _)) (b := (.seq (.block 1 _) _)) ?_
    skip
    revert h
    with_reducible refine bind_elimY ?_
    intro o2 h hK2
    unfold spec_l01Source.a2 at h
    refine sw_join (ι := Gl01Src × (List Int) × Int) 20000000 (fun x : Gl01Src × (List Int) × Int => [(.s 0, some (.v (.d (.row .bor 1 (Rw (cI .u8) x.2.1))))), (.s 3, some (.v (.mp 192 4 0 0))), (.s 4, some (.v (V.int x.2.2))), (.r 192, some (.o 4 [[.d (.row .bor 1 (Rw (cI .u8) x.1.b)), V.int x.1.at0, .d (.p (.int .u64 x.1.mix)), V.int x.1.size]]))]) (fun x => Yes (some (.inl x)) o2) ?_ ?_
    rotate_left
    rintro ⟨b1, b2, b3⟩ h
    obtain rfl := h.get
    have h := hK2
    (try (simp only [Sum.elim_inl, Sum.elim_inr] at h))
    refine sw_gh ?_
    refine gh_sw ?_
    skip)
 | (with_reducible refine here_meet (N0 := 20000000) ?_
    skip
    refine meet_to (_, _, _) (by decide) ?_ h ?_
    · exact (by simp [slNL, C.inN, V.inN, V.inNs, V.inNss, inNss_dd, inNs_map_d])
    · simp only [SubL, putSt, lk, lkb, reduceCtorEq, Nat.reduceEqDiff, List.length_set, List.length_replicate]; repeat' (first | apply And.intro | rfl | trivial | (simp only [*]; done)))
 | (with_reducible refine here_loop (c := (.seq (.seq (.region 3 _ _) _) _)) ?_
    skip
    revert h
    with_reducible refine bind_elimY ?_
    intro o1 h hK1
    refine sw_loop (ι := Nat × Gl01Src × (List Int) × Int) 10000000 (by decide) (fun x : Nat × Gl01Src × (List Int) × Int => [(.s 0, some (.v (.d (.row .bor 1 (Rw (cI .u8) x.2.2.1))))), (.s 3, some (.v (.mp 192 4 0 0))), (.s 4, some (.v (V.int x.2.2.2))), (.r 192, some (.o 4 [[.d (.row .bor 1 (Rw (cI .u8) x.2.1.b)), V.int x.2.1.at0, .d (.p (.int .u64 x.2.1.mix)), V.int x.2.1.size]]))]) (fun x => x.1) (fun x => Yes (spec_l01Source.l1 x.1 x.2.1 x.2.2.1 x.2.2.2) o1) (_, _, _, _) ?_ h ?_ ?_
    · exact (by simp [slNL, C.inN, V.inN, V.inNs, V.inNss, inNss_dd, inNs_map_d])
    · simp only [SubL, putSt, lk, lkb, reduceCtorEq, Nat.reduceEqDiff, List.length_set, List.length_replicate]; repeat' (first | apply And.intro | rfl | trivial | (simp only [*]; done))
    rintro ⟨_ | k, a1, a2, a3⟩ h
    · simp only [spec_l01Source.l1] at h; exact h.none
    simp only [spec_l01Source.l1] at h
)
 | (with_reducible refine here_next (N0 := 10000000) ?_
    skip
    refine nexts_to (_, _, _, _) (by decide) ?_ (Nat.lt_succ_self _) h ?_
    · exact (by simp [slNL, C.inN, V.inN, V.inNs, V.inNss, inNss_dd, inNs_map_d])
    · simp only [SubL, putSt, lk, lkb, reduceCtorEq, Nat.reduceEqDiff, List.length_set, List.length_replicate]; repeat' (first | apply And.intro | rfl | trivial | (simp only [*]; done)))
 | with_reducible refine sw_seq ?_
 | with_reducible refine seqQ_ret ?_
 | with_reducible refine seqQ_exit ?_
 | ((with_reducible refine wp_ite ?_ ?_)
    all_goals (intro hc; (try (simp only [Bool.not_eq_true, Bool.not_eq_false] at hc)); simp only [hc]))
 | (with_reducible apply regW_skip
    · simp only [dstOk, Nat.reduceLT]
    · rfl
    · simp only [putSt, lk, lkb, reduceCtorEq, Nat.reduceEqDiff]; done)
 | (with_reducible apply regW_yesN
    · simp only [dstOk, Nat.reduceLT]
    · rfl
    · simp only [putSt, lk, lkb, reduceCtorEq, Nat.reduceEqDiff]; done)
 | (with_reducible apply regW_no
    · simp only [dstOk, Nat.reduceLT]
    · rfl
    · simp only [putSt, lk, lkb, reduceCtorEq, Nat.reduceEqDiff, Bool.not_true, Bool.not_false]; done)
 | (with_reducible apply regW_guardN
    · simp only [dstOk, Nat.reduceLT]
    · rfl
    · simp only [putSt, lk, lkb, reduceCtorEq, Nat.reduceEqDiff]; rfl
    all_goals (intro hc; (try (simp only [Bool.not_true, Bool.not_false] at hc))))
 | (with_reducible apply sw_cond
    · simp only [putSt, lk, lkb, reduceCtorEq, Nat.reduceEqDiff]; rfl
    all_goals (intro hc; try (cases hc; done)))
 | ((first
     | ((with_reducible refine gh_ret ?_)
        revert h
        with_reducible refine some_elim ?_
        rintro rfl)
     | (with_reducible apply regD_opK
        · simp only [dstOk, Nat.reduceLT]
        · simp only [Nat.reduceAdd]; rfl
        intro k hk)
     | (with_reducible apply regW_opK
        · simp only [dstOk, Nat.reduceLT]
        · simp only [Nat.reduceAdd]; rfl
        intro k hk)
     | skip)
    simp only [RetW, bn, lkb, evb, opC, opP, fetchN, fetchP, fetchAll, fetchO, Prog.bind, Prog.wp, Prog.wp_bind, lk, nameP, nameAll, Value.oneCell', putSt, stepP, putP, reduceCtorEq, V.lin, V.linL, D.lin, isNil, binP, unP, BinOp.isShift, Prog.ofO, Nat.reduceAdd, Nat.reduceMul, Nat.reduceSub, Nat.reduceLT, Nat.reduceLeDiff, Nat.reduceEqDiff, ite_true, ite_false, fieldAddrP, fieldP, indexAddrP, loadP, storeP, boxP, allocP, cellsP, asVal, setSeg, outP, outT, cntT, TyK.field, TyK.agg, zeroRow, V.ren, V.renL, forall_eq_or_imp, forall_const, minmaxP, lenP, lenOf, lenStr, V.asInt, decide_true, decide_false, sliceP, boundP, makeSliceP, convertP, appendP, rowsOfP, ontoP, sizeFits, V.rowSize, TyK.src, resV, resV.go, resV.gol, retP, retOne, retAll, resTo, objsAre, Option.map_eq_map, Function.const_apply, Int.reduceNeg, Int.reduceToNat, ty2, ty3, ty5, ty37, ty41, ty113, ty139, Gl01Src.cells, cI, cB, cS, cL, Gl01Src_e, buildP, buildSliceP, putParts, structPlaces, chunks, List.replicate, List.flatten_nil, List.flatten_cons, Option.bind_some, shiftBin_shl, shiftBin_shr, intBin_quo, intBin_rem, Int.reduceLT, Int.reduceEq, not_false_eq_true, Int.not_lt, nilEqP, ne_eq, not_false_eq_true, not_true_eq_false, *]
    try (refine hk.use _ _ _ _ ?_; clear hk k))
 | fail)
  all_goals (try rfl)
  all_goals (try (simp; done))
  all_goals (try (simp_all; done))
def spec_l01Src_n.a1 (k : Nat) (a1 : Gl01Src) (a2 : Int) (a3 : Int) : Option (Gl01Src × Int × Int) :=
  cond ((decide (a1.at0 < ((a1.b.length : Int))))) ((idx a1.b a1.at0).bind fun m1 => some ((⟨a1.b, (IntKind.i64.wrap (a1.at0 + 1)), a1.mix, a1.size⟩ : Gl01Src), a2, (IntKind.u64.wrap m1))) (some (a1, a2, a3))
def spec_l01Src_n (k : Nat) (p0 : Gl01Src) (p1 : Int) : Option (Int × Gl01Src) :=
  cond ((decide (p1 ≤ 1))) (some (0, p0)) ((spec_l01Src_n.a1 k p0 p1 0).bind fun o1 => gd (((IntKind.u64.wrap o1.2.1)) ≠ 0) (some ((IntKind.i64.wrap ((((IntKind.u64.wrap (o1.2.2 + ((ishr .u64 ((ixor .u64 ((ixor .u64 ((ixor .u64 o1.1.mix ((ishl .u64 o1.1.mix 13)))) ((ishr .u64 ((ixor .u64 o1.1.mix ((ishl .u64 o1.1.mix 13)))) 7)))) ((ishl .u64 ((ixor .u64 ((ixor .u64 o1.1.mix ((ishl .u64 o1.1.mix 13)))) ((ishr .u64 ((ixor .u64 o1.1.mix ((ishl .u64 o1.1.mix 13)))) 7)))) 17)))) 20))))).tmod ((IntKind.u64.wrap o1.2.1))))), (⟨o1.1.b, o1.1.at0, (ixor .u64 ((ixor .u64 ((ixor .u64 o1.1.mix ((ishl .u64 o1.1.mix 13)))) ((ishr .u64 ((ixor .u64 o1.1.mix ((ishl .u64 o1.1.mix 13)))) 7)))) ((ishl .u64 ((ixor .u64 ((ixor .u64 o1.1.mix ((ishl .u64 o1.1.mix 13)))) ((ishr .u64 ((ixor .u64 o1.1.mix ((ishl .u64 o1.1.mix 13)))) 7)))) 17))), o1.1.size⟩ : Gl01Src))))
theorem c_spec_l01Src_n {k : Nat} {p0 : Gl01Src} {p1 : Int} {r : Int × Gl01Src} (h : spec_l01Src_n k p0 p1 = some r) : Con Try.prog 79 [.mp 0 4 0 0, V.int p1] [.o 4 [[.d (.row .bor 1 (Rw (cI .u8) p0.b)), V.int p0.at0, .d (.p (.int .u64 p0.mix)), V.int p0.size]]] (V.int r.1) [.o 4 [[.d (.row .bor 1 (Rw (cI .u8) r.2.b)), V.int r.2.at0, .d (.p (.int .u64 r.2.mix)), V.int r.2.size]]] := by
  refine con_of_sw Try.func79 rfl Try.call79 (by simp [Try.ntmps79]) (by simp [V.inNs, V.inN]) (by simp [C.inN, V.inNss, V.inNs, V.inN, inNss_dd]) (by simp [V.inNs, V.inN]) (by simp [C.inN, V.inNss, V.inNs, V.inN, inNss_dd]) rfl ?_
  rw [Try.ntmps79, Try.results79]
  unfold spec_l01Src_n at h
  replace h := Yes.mk h
  simp only [entryS, entryO, Nat.reduceAdd, List.length_nil, List.length_cons]
  repeat' (first
 | (with_reducible (first | refine sw_reg ?_ | refine sw_ret ?_ | refine sw_skip ?_ | refine sw_block ?_ | refine sw_exit ?_ | refine seqQ_normal ?_ | refine blockQ_normal ?_ | refine blockQ_ret ?_ | refine blockQ_this ?_ | refine blockQ_other (by decide) ?_ | refine regW_nil ?_ | refine sw_draw mixed ?_ | refine retQ_ret ?_ | refine retQ_normal ?_))
 | (with_reducible refine regD_nil ?_
    refine ⟨by kernel_rfl, ?_⟩)
 | (revert h; (first | ((with_reducible refine idx_elim ?_); intro m hm1 hm2 hm3 h; (try (simp only [Int.reduceToNat] at hm3)); (try (revert hm3; (with_reducible apply same_elim); (focus (with_reducible assumption)); rintro rfl)); (try (simp only [List.length_set, List.length_cons, List.length_nil, List.length_replicate, Nat.reduceAdd, Int.cast_ofNat_Int, Nat.zero_add, List.length_append] at hm2))) | (with_reducible refine sidx_elim ?_; intro m hm1 hm3 h) | (with_reducible refine gd_elim ?_; intro hg h; try (have hg2 := hg.2; have hg := hg.1; (try (simp only [Nat.reduceLeDiff] at hg2)); (try (revert hg2; (with_reducible refine toNat_elim hg ?_); intro hg2 hg4)); try (have hg3 := hg2.2; have hg2 := hg2.1; (try (simp only [Nat.reduceLeDiff] at hg3))))) | (with_reducible refine condt_elim ?_ ?_; (focus (with_reducible assumption)); intro h) | (with_reducible refine condf_elim ?_ ?_; (focus (with_reducible assumption)); intro h)))
 | ((first | with_reducible refine seqQ_ret (K := (fun st1 n1 => Gh st1 n1 (MeetA _ 10000000 _ _))) ?_ | with_reducible refine seqQ_exit (K := (fun st1 n1 => Gh st1 n1 (MeetA _ 10000000 _ _))) ?_)
    obtain rfl := h.get
    have h := hK1
    (try (simp only [Sum.elim_inl, Sum.elim_inr] at h)))
 | (with_reducible refine here_join (a := (.seq (.region 4 _ _) _)) (b := (.seq (.region 7 _ _) _)) ?_
    skip
    revert h
    with_reducible refine bind_elimY ?_
    intro o1 h hK1
    unfold spec_l01Src_n.a1 at h
    refine sw_join (ι := Gl01Src × Int × Int) 10000000 (fun x : Gl01Src × Int × Int => [(.s 0, some (.v (.mp 0 4 0 0))), (.s 1, some (.v (V.int x.2.1))), (.s 5, some (.v (.d (.p (.int .u64 x.2.2))))), (.r 0, some (.o 4 [[.d (.row .bor 1 (Rw (cI .u8) x.1.b)), V.int x.1.at0, .d (.p (.int .u64 x.1.mix)), V.int x.1.size]]))]) (fun x => Yes (some (x)) o1) ?_ ?_
    rotate_left
    rintro ⟨b1, b2, b3⟩ h
    obtain rfl := h.get
    have h := hK1
    (try (simp only [Sum.elim_inl, Sum.elim_inr] at h))
    refine sw_gh ?_
    refine gh_sw ?_
    skip)
 | (with_reducible refine here_meet (N0 := 10000000) ?_
    skip
    refine meet_to (_, _, _) (by decide) ?_ h ?_
    · exact (by simp [slNL, C.inN, V.inN, V.inNs, V.inNss, inNss_dd, inNs_map_d])
    · simp only [SubL, putSt, lk, lkb, reduceCtorEq, Nat.reduceEqDiff, List.length_set, List.length_replicate]; repeat' (first | apply And.intro | rfl | trivial | (simp only [*]; done)))
 | with_reducible refine sw_seq ?_
 | with_reducible refine seqQ_ret ?_
 | with_reducible refine seqQ_exit ?_
 | ((with_reducible refine wp_ite ?_ ?_)
    all_goals (intro hc; (try (simp only [Bool.not_eq_true, Bool.not_eq_false] at hc)); simp only [hc]))
 | (with_reducible apply regW_skip
    · simp only [dstOk, Nat.reduceLT]
    · rfl
    · simp only [putSt, lk, lkb, reduceCtorEq, Nat.reduceEqDiff]; done)
 | (with_reducible apply regW_yesN
    · simp only [dstOk, Nat.reduceLT]
    · rfl
    · simp only [putSt, lk, lkb, reduceCtorEq, Nat.reduceEqDiff]; done)
 | (with_reducible apply regW_no
    · simp only [dstOk, Nat.reduceLT]
    · rfl
    · simp only [putSt, lk, lkb, reduceCtorEq, Nat.reduceEqDiff, Bool.not_true, Bool.not_false]; done)
 | (with_reducible apply regW_guardN
    · simp only [dstOk, Nat.reduceLT]
    · rfl
    · simp only [putSt, lk, lkb, reduceCtorEq, Nat.reduceEqDiff]; rfl
    all_goals (intro hc; (try (simp only [Bool.not_true, Bool.not_false] at hc))))
 | (with_reducible apply sw_cond
    · simp only [putSt, lk, lkb, reduceCtorEq, Nat.reduceEqDiff]; rfl
    all_goals (intro hc; try (cases hc; done)))
 | ((first
     | ((with_reducible refine gh_ret ?_)
        revert h
        with_reducible refine some_elim ?_
        rintro rfl)
     | (with_reducible apply regD_opK
        · simp only [dstOk, Nat.reduceLT]
        · simp only [Nat.reduceAdd]; rfl
        intro k hk)
     | (with_reducible apply regW_opK
        · simp only [dstOk, Nat.reduceLT]
        · simp only [Nat.reduceAdd]; rfl
        intro k hk)
     | skip)
    simp only [RetW, bn, lkb, evb, opC, opP, fetchN, fetchP, fetchAll, fetchO, Prog.bind, Prog.wp, Prog.wp_bind, lk, nameP, nameAll, Value.oneCell', putSt, stepP, putP, reduceCtorEq, V.lin, V.linL, D.lin, isNil, binP, unP, BinOp.isShift, Prog.ofO, Nat.reduceAdd, Nat.reduceMul, Nat.reduceSub, Nat.reduceLT, Nat.reduceLeDiff, Nat.reduceEqDiff, ite_true, ite_false, fieldAddrP, fieldP, indexAddrP, loadP, storeP, boxP, allocP, cellsP, asVal, setSeg, outP, outT, cntT, TyK.field, TyK.agg, zeroRow, V.ren, V.renL, forall_eq_or_imp, forall_const, minmaxP, lenP, lenOf, lenStr, V.asInt, decide_true, decide_false, sliceP, boundP, makeSliceP, convertP, appendP, rowsOfP, ontoP, sizeFits, V.rowSize, TyK.src, resV, resV.go, resV.gol, retP, retOne, retAll, resTo, objsAre, Option.map_eq_map, Function.const_apply, Int.reduceNeg, Int.reduceToNat, ty2, ty3, ty5, ty37, ty41, ty113, ty139, Gl01Src.cells, cI, cB, cS, cL, Gl01Src_e, shiftBin_shl, shiftBin_shr, intBin_quo, intBin_rem, Int.reduceLT, Int.reduceEq, not_false_eq_true, Int.not_lt, nilEqP, ne_eq, not_false_eq_true, not_true_eq_false, *]
    try (refine hk.use _ _ _ _ ?_; clear hk k))
 | fail)
  all_goals (try rfl)
  all_goals (try (simp; done))
  all_goals (try (simp_all; done))
def spec_l01Min (p0 : Int) (p1 : Int) : Option (Int) :=
  cond ((decide (p0 < p1))) (some p0) (some p1)
theorem c_spec_l01Min {p0 : Int} {p1 : Int} {r : Int} (h : spec_l01Min p0 p1 = some r) : Con Try.prog 95 [V.int p0, V.int p1] [] (V.int r) [] := by
  refine con_of_sw Try.func95 rfl Try.call95 (by simp [Try.ntmps95]) (by simp [V.inNs, V.inN]) (by simp [C.inN, V.inNss, V.inNs, V.inN, inNss_dd]) (by simp [V.inNs, V.inN]) (by simp [C.inN, V.inNss, V.inNs, V.inN, inNss_dd]) rfl ?_
  rw [Try.ntmps95, Try.results95]
  unfold spec_l01Min at h
  replace h := Yes.mk h
  simp only [entryS, entryO, Nat.reduceAdd, List.length_nil, List.length_cons]
  repeat' (first
 | (with_reducible (first | refine sw_reg ?_ | refine sw_ret ?_ | refine sw_skip ?_ | refine sw_block ?_ | refine sw_exit ?_ | refine seqQ_normal ?_ | refine blockQ_normal ?_ | refine blockQ_ret ?_ | refine blockQ_this ?_ | refine blockQ_other (by decide) ?_ | refine regW_nil ?_ | refine sw_draw mixed ?_ | refine retQ_ret ?_ | refine retQ_normal ?_))
 | (with_reducible refine regD_nil ?_
    refine ⟨by kernel_rfl, ?_⟩)
 | (revert h; (first | ((with_reducible refine idx_elim ?_); intro m hm1 hm2 hm3 h; (try (simp only [Int.reduceToNat] at hm3)); (try (revert hm3; (with_reducible apply same_elim); (focus (with_reducible assumption)); rintro rfl)); (try (simp only [List.length_set, List.length_cons, List.length_nil, List.length_replicate, Nat.reduceAdd, Int.cast_ofNat_Int, Nat.zero_add, List.length_append] at hm2))) | (with_reducible refine sidx_elim ?_; intro m hm1 hm3 h) | (with_reducible refine gd_elim ?_; intro hg h; try (have hg2 := hg.2; have hg := hg.1; (try (simp only [Nat.reduceLeDiff] at hg2)); (try (revert hg2; (with_reducible refine toNat_elim hg ?_); intro hg2 hg4)); try (have hg3 := hg2.2; have hg2 := hg2.1; (try (simp only [Nat.reduceLeDiff] at hg3))))) | (with_reducible refine condt_elim ?_ ?_; (focus (with_reducible assumption)); intro h) | (with_reducible refine condf_elim ?_ ?_; (focus (with_reducible assumption)); intro h)))
 | with_reducible refine sw_seq ?_
 | with_reducible refine seqQ_ret ?_
 | with_reducible refine seqQ_exit ?_
 | ((with_reducible refine wp_ite ?_ ?_)
    all_goals (intro hc; (try (simp only [Bool.not_eq_true, Bool.not_eq_false] at hc)); simp only [hc]))
 | (with_reducible apply regW_skip
    · simp only [dstOk, Nat.reduceLT]
    · rfl
    · simp only [putSt, lk, lkb, reduceCtorEq, Nat.reduceEqDiff]; done)
 | (with_reducible apply regW_yesN
    · simp only [dstOk, Nat.reduceLT]
    · rfl
    · simp only [putSt, lk, lkb, reduceCtorEq, Nat.reduceEqDiff]; done)
 | (with_reducible apply regW_no
    · simp only [dstOk, Nat.reduceLT]
    · rfl
    · simp only [putSt, lk, lkb, reduceCtorEq, Nat.reduceEqDiff, Bool.not_true, Bool.not_false]; done)
 | (with_reducible apply regW_guardN
    · simp only [dstOk, Nat.reduceLT]
    · rfl
    · simp only [putSt, lk, lkb, reduceCtorEq, Nat.reduceEqDiff]; rfl
    all_goals (intro hc; (try (simp only [Bool.not_true, Bool.not_false] at hc))))
 | (with_reducible apply sw_cond
    · simp only [putSt, lk, lkb, reduceCtorEq, Nat.reduceEqDiff]; rfl
    all_goals (intro hc; try (cases hc; done)))
 | ((first
     | ((with_reducible refine gh_ret ?_)
        revert h
        with_reducible refine some_elim ?_
        rintro rfl)
     | (with_reducible apply regD_opK
        · simp only [dstOk, Nat.reduceLT]
        · simp only [Nat.reduceAdd]; rfl
        intro k hk)
     | (with_reducible apply regW_opK
        · simp only [dstOk, Nat.reduceLT]
        · simp only [Nat.reduceAdd]; rfl
        intro k hk)
     | skip)
    simp only [RetW, bn, lkb, evb, opC, opP, fetchN, fetchP, fetchAll, fetchO, Prog.bind, Prog.wp, Prog.wp_bind, lk, nameP, nameAll, Value.oneCell', putSt, stepP, putP, reduceCtorEq, V.lin, V.linL, D.lin, isNil, binP, unP, BinOp.isShift, Prog.ofO, Nat.reduceAdd, Nat.reduceMul, Nat.reduceSub, Nat.reduceLT, Nat.reduceLeDiff, Nat.reduceEqDiff, ite_true, ite_false, fieldAddrP, fieldP, indexAddrP, loadP, storeP, boxP, allocP, cellsP, asVal, setSeg, outP, outT, cntT, TyK.field, TyK.agg, zeroRow, V.ren, V.renL, forall_eq_or_imp, forall_const, minmaxP, lenP, lenOf, lenStr, V.asInt, decide_true, decide_false, sliceP, boundP, makeSliceP, convertP, appendP, rowsOfP, ontoP, sizeFits, V.rowSize, TyK.src, resV, resV.go, resV.gol, retP, retOne, retAll, resTo, objsAre, Option.map_eq_map, Function.const_apply, Int.reduceNeg, Int.reduceToNat, ty2, cI, cB, cS, cL, *]
    try (refine hk.use _ _ _ _ ?_; clear hk k))
 | fail)
  all_goals (try rfl)
  all_goals (try (simp; done))
  all_goals (try (simp_all; done))
def spec_l03Gen_full (p0 : Gl03Gen) : Option (Bool × Gl03Gen) :=
  some ((decide (((p0.code.length : Int)) ≥ p0.most)), p0)
theorem c_spec_l03Gen_full {p0 : Gl03Gen} {r : Bool × Gl03Gen} (h : spec_l03Gen_full p0 = some r) : Con Try.prog 113 [.mp 0 5 0 0] [.o 5 [[.mp 1 4 0 0, .sl 2 1 0 p0.args.length, V.int p0.locals, .d (.row .own 2 (Rw GI2.cells p0.code)), V.int p0.most]], .o 4 [[.d (.row .bor 1 (Rw (cI .u8) p0.s.b)), V.int p0.s.at0, .d (.p (.int .u64 p0.s.mix)), V.int p0.s.size]], .o 1 (dd (Rw (cI .i64) p0.args))] (V.bool r.1) [.o 5 [[.mp 1 4 0 0, .sl 2 1 0 p0.args.length, V.int r.2.locals, .d (.row .own 2 (Rw GI2.cells r.2.code)), V.int r.2.most]], .o 4 [[.d (.row .bor 1 (Rw (cI .u8) r.2.s.b)), V.int r.2.s.at0, .d (.p (.int .u64 r.2.s.mix)), V.int r.2.s.size]], .o 1 (dd (Rw (cI .i64) r.2.args))] := by
  refine con_of_sw Try.func113 rfl Try.call113 (by simp [Try.ntmps113]) (by simp [V.inNs, V.inN]) (by simp [C.inN, V.inNss, V.inNs, V.inN, inNss_dd]) (by simp [V.inNs, V.inN]) (by simp [C.inN, V.inNss, V.inNs, V.inN, inNss_dd]) rfl ?_
  rw [Try.ntmps113, Try.results113]
  unfold spec_l03Gen_full at h
  replace h := Yes.mk h
  simp only [entryS, entryO, Nat.reduceAdd, List.length_nil, List.length_cons]
  repeat' (first
 | (with_reducible refine here_reg (i := 1) ?_
    refine sw_gh ?_
    with_reducible apply gh_nameCell 0 3
    · simp only [putSt, lk, lkb, reduceCtorEq, Nat.reduceEqDiff]; rfl
    · rfl
    simp only [List.set_cons_zero, List.set_cons_succ, Nat.reduceAdd, Rw_length]
    refine gh_sw ?_)
 | (with_reducible (first | refine sw_reg ?_ | refine sw_ret ?_ | refine sw_skip ?_ | refine sw_block ?_ | refine sw_exit ?_ | refine seqQ_normal ?_ | refine blockQ_normal ?_ | refine blockQ_ret ?_ | refine blockQ_this ?_ | refine blockQ_other (by decide) ?_ | refine regW_nil ?_ | refine sw_draw mixed ?_ | refine retQ_ret ?_ | refine retQ_normal ?_))
 | (with_reducible refine regD_nil ?_
    refine ⟨by kernel_rfl, ?_⟩)
 | (revert h; (first | ((with_reducible refine idx_elim ?_); intro m hm1 hm2 hm3 h; (try (simp only [Int.reduceToNat] at hm3)); (try (revert hm3; (with_reducible apply same_elim); (focus (with_reducible assumption)); rintro rfl)); (try (simp only [List.length_set, List.length_cons, List.length_nil, List.length_replicate, Nat.reduceAdd, Int.cast_ofNat_Int, Nat.zero_add, List.length_append] at hm2))) | (with_reducible refine sidx_elim ?_; intro m hm1 hm3 h) | (with_reducible refine gd_elim ?_; intro hg h; try (have hg2 := hg.2; have hg := hg.1; (try (simp only [Nat.reduceLeDiff] at hg2)); (try (revert hg2; (with_reducible refine toNat_elim hg ?_); intro hg2 hg4)); try (have hg3 := hg2.2; have hg2 := hg2.1; (try (simp only [Nat.reduceLeDiff] at hg3))))) | (with_reducible refine condt_elim ?_ ?_; (focus (with_reducible assumption)); intro h) | (with_reducible refine condf_elim ?_ ?_; (focus (with_reducible assumption)); intro h)))
 | with_reducible refine sw_seq ?_
 | with_reducible refine seqQ_ret ?_
 | with_reducible refine seqQ_exit ?_
 | (with_reducible refine here_retw ?_
    with_reducible apply gh_resSl 0 3
    · simp only [putSt, lk, lkb, reduceCtorEq, Nat.reduceEqDiff]; rfl
    · rfl
    simp only [rxb, Nat.reduceAdd, Nat.reduceLeDiff, resSlotP, nameSlotP, Prog.wp, Prog.wp_bind, Prog.bind, Prog.ofO, putSt, lk, lkb, reduceCtorEq, Nat.reduceEqDiff, resV, resV.go, resV.gol, nameAll, nameP, outP, outT, cntT, V.lin, D.lin, *])
 | ((with_reducible refine wp_ite ?_ ?_)
    all_goals (intro hc; (try (simp only [Bool.not_eq_true, Bool.not_eq_false] at hc)); simp only [hc]))
 | (with_reducible apply regW_skip
    · simp only [dstOk, Nat.reduceLT]
    · rfl
    · simp only [putSt, lk, lkb, reduceCtorEq, Nat.reduceEqDiff]; done)
 | (with_reducible apply regW_yesN
    · simp only [dstOk, Nat.reduceLT]
    · rfl
    · simp only [putSt, lk, lkb, reduceCtorEq, Nat.reduceEqDiff]; done)
 | (with_reducible apply regW_no
    · simp only [dstOk, Nat.reduceLT]
    · rfl
    · simp only [putSt, lk, lkb, reduceCtorEq, Nat.reduceEqDiff, Bool.not_true, Bool.not_false]; done)
 | (with_reducible apply regW_guardN
    · simp only [dstOk, Nat.reduceLT]
    · rfl
    · simp only [putSt, lk, lkb, reduceCtorEq, Nat.reduceEqDiff]; rfl
    all_goals (intro hc; (try (simp only [Bool.not_true, Bool.not_false] at hc))))
 | (with_reducible apply sw_cond
    · simp only [putSt, lk, lkb, reduceCtorEq, Nat.reduceEqDiff]; rfl
    all_goals (intro hc; try (cases hc; done)))
 | ((first
     | ((with_reducible refine gh_ret ?_)
        revert h
        with_reducible refine some_elim ?_
        rintro rfl)
     | (with_reducible apply regD_opK
        · simp only [dstOk, Nat.reduceLT]
        · simp only [Nat.reduceAdd]; rfl
        intro k hk)
     | (with_reducible apply regW_opK
        · simp only [dstOk, Nat.reduceLT]
        · simp only [Nat.reduceAdd]; rfl
        intro k hk)
     | skip)
    simp only [RetW, bn, lkb, evb, opC, opP, fetchN, fetchP, fetchAll, fetchO, Prog.bind, Prog.wp, Prog.wp_bind, lk, nameP, nameAll, Value.oneCell', putSt, stepP, putP, reduceCtorEq, V.lin, V.linL, D.lin, isNil, binP, unP, BinOp.isShift, Prog.ofO, Nat.reduceAdd, Nat.reduceMul, Nat.reduceSub, Nat.reduceLT, Nat.reduceLeDiff, Nat.reduceEqDiff, ite_true, ite_false, fieldAddrP, fieldP, indexAddrP, loadP, storeP, boxP, allocP, cellsP, asVal, setSeg, outP, outT, cntT, TyK.field, TyK.agg, zeroRow, V.ren, V.renL, forall_eq_or_imp, forall_const, minmaxP, lenP, lenOf, lenStr, V.asInt, decide_true, decide_false, sliceP, boundP, makeSliceP, convertP, appendP, rowsOfP, ontoP, sizeFits, V.rowSize, TyK.src, resV, resV.go, resV.gol, retP, retOne, retAll, resTo, objsAre, Option.map_eq_map, Function.const_apply, Int.reduceNeg, Int.reduceToNat, ty2, ty3, ty4, ty5, ty26, ty37, ty41, ty63, ty107, ty113, ty139, ty140, ty143, GI2.cells, Gl01Src.cells, cI, cB, cS, cL, GI2_e, Gl01Src_e, LcIi64_e, nilEqP, ne_eq, not_false_eq_true, not_true_eq_false, *]
    try (refine hk.use _ _ _ _ ?_; clear hk k))
 | fail)
  all_goals (try rfl)
  all_goals (try (simp; done))
  all_goals (try (simp_all; done))
def spec_l01Src_one (k : Nat) (p0 : Gl01Src) (p1 : Int) : Option (Bool × Gl01Src) :=
  (spec_l01Src_n k p0 p1).bind fun t1 => some ((t1.1 == 0), t1.2)
theorem c_spec_l01Src_one {k : Nat} {p0 : Gl01Src} {p1 : Int} {r : Bool × Gl01Src} (h : spec_l01Src_one k p0 p1 = some r) : Con Try.prog 78 [.mp 0 4 0 0, V.int p1] [.o 4 [[.d (.row .bor 1 (Rw (cI .u8) p0.b)), V.int p0.at0, .d (.p (.int .u64 p0.mix)), V.int p0.size]]] (V.bool r.1) [.o 4 [[.d (.row .bor 1 (Rw (cI .u8) r.2.b)), V.int r.2.at0, .d (.p (.int .u64 r.2.mix)), V.int r.2.size]]] := by
  refine con_of_sw Try.func78 rfl Try.call78 (by simp [Try.ntmps78]) (by simp [V.inNs, V.inN]) (by simp [C.inN, V.inNss, V.inNs, V.inN, inNss_dd]) (by simp [V.inNs, V.inN]) (by simp [C.inN, V.inNss, V.inNs, V.inN, inNss_dd]) rfl ?_
  rw [Try.ntmps78, Try.results78]
  unfold spec_l01Src_one at h
  replace h := Yes.mk h
  simp only [entryS, entryO, Nat.reduceAdd, List.length_nil, List.length_cons]
  repeat' (first
 | (with_reducible (first | refine sw_reg ?_ | refine sw_ret ?_ | refine sw_skip ?_ | refine sw_block ?_ | refine sw_exit ?_ | refine seqQ_normal ?_ | refine blockQ_normal ?_ | refine blockQ_ret ?_ | refine blockQ_this ?_ | refine blockQ_other (by decide) ?_ | refine regW_nil ?_ | refine sw_draw mixed ?_ | refine retQ_ret ?_ | refine retQ_normal ?_))
 | (with_reducible refine regD_nil ?_
    refine ⟨by kernel_rfl, ?_⟩)
 | (revert h; (first | ((with_reducible refine idx_elim ?_); intro m hm1 hm2 hm3 h; (try (simp only [Int.reduceToNat] at hm3)); (try (revert hm3; (with_reducible apply same_elim); (focus (with_reducible assumption)); rintro rfl)); (try (simp only [List.length_set, List.length_cons, List.length_nil, List.length_replicate, Nat.reduceAdd, Int.cast_ofNat_Int, Nat.zero_add, List.length_append] at hm2))) | (with_reducible refine sidx_elim ?_; intro m hm1 hm3 h) | (with_reducible refine gd_elim ?_; intro hg h; try (have hg2 := hg.2; have hg := hg.1; (try (simp only [Nat.reduceLeDiff] at hg2)); (try (revert hg2; (with_reducible refine toNat_elim hg ?_); intro hg2 hg4)); try (have hg3 := hg2.2; have hg2 := hg2.1; (try (simp only [Nat.reduceLeDiff] at hg3))))) | (with_reducible refine condt_elim ?_ ?_; (focus (with_reducible assumption)); intro h) | (with_reducible refine condf_elim ?_ ?_; (focus (with_reducible assumption)); intro h)))
 | with_reducible refine sw_seq ?_
 | with_reducible refine seqQ_ret ?_
 | with_reducible refine seqQ_exit ?_
 | ((with_reducible refine wp_ite ?_ ?_)
    all_goals (intro hc; (try (simp only [Bool.not_eq_true, Bool.not_eq_false] at hc)); simp only [hc]))
 | (with_reducible apply regW_skip
    · simp only [dstOk, Nat.reduceLT]
    · rfl
    · simp only [putSt, lk, lkb, reduceCtorEq, Nat.reduceEqDiff]; done)
 | (with_reducible apply regW_yesN
    · simp only [dstOk, Nat.reduceLT]
    · rfl
    · simp only [putSt, lk, lkb, reduceCtorEq, Nat.reduceEqDiff]; done)
 | (with_reducible apply regW_no
    · simp only [dstOk, Nat.reduceLT]
    · rfl
    · simp only [putSt, lk, lkb, reduceCtorEq, Nat.reduceEqDiff, Bool.not_true, Bool.not_false]; done)
 | (with_reducible apply regW_guardN
    · simp only [dstOk, Nat.reduceLT]
    · rfl
    · simp only [putSt, lk, lkb, reduceCtorEq, Nat.reduceEqDiff]; rfl
    all_goals (intro hc; (try (simp only [Bool.not_true, Bool.not_false] at hc))))
 | (with_reducible apply sw_cond
    · simp only [putSt, lk, lkb, reduceCtorEq, Nat.reduceEqDiff]; rfl
    all_goals (intro hc; try (cases hc; done)))
 | ((first
     | ((with_reducible refine gh_ret ?_)
        revert h
        with_reducible refine some_elim ?_
        rintro rfl)
     | (with_reducible refine here_call ?_
        revert h
        with_reducible refine bind_elim ?_
        intro t ht h
        (first
          | (refine call_obj [0] (c_spec_l01Src_n ht) (by decide) ?_ ?_
             · first | exact .inl rfl | (refine .inr ⟨?_, ?_⟩; (focus (first | rfl | (simp only [V.nb, V.nbL, D.nb, D.nbL, Md.nb, nbb, Gl01Src_nb]; done))); (focus (simp [C.nb, V.nbLL, V.nbL, V.nb, D.nb]; done)))
             simp only [argsP, argP, V.namesOf, V.namesOfL, List.mem_append, List.append_nil, List.mem_cons, or_false, or_true, true_or, objsP, C.ren, V.ren, V.renL, renLL_dd, V.renLL, List.getD_cons_zero, List.getD_cons_succ, C.o.injEq, hyb, lendAL, lendA, undd.unddR, D.lendL, D.lend, Md.lend, Gl01Src_lend, putSt, lk, lkb, reduceCtorEq, Nat.reduceEqDiff, Prog.wp, Prog.wp_bind, Prog.bind, Prog.ofO, List.take_of_length_le, *])))
     | (with_reducible apply regD_opK
        · simp only [dstOk, Nat.reduceLT]
        · simp only [Nat.reduceAdd]; rfl
        intro k hk)
     | (with_reducible apply regW_opK
        · simp only [dstOk, Nat.reduceLT]
        · simp only [Nat.reduceAdd]; rfl
        intro k hk)
     | skip)
    simp only [RetW, bn, lkb, evb, opC, opP, fetchN, fetchP, fetchAll, fetchO, Prog.bind, Prog.wp, Prog.wp_bind, lk, nameP, nameAll, Value.oneCell', putSt, stepP, putP, reduceCtorEq, V.lin, V.linL, D.lin, isNil, binP, unP, BinOp.isShift, Prog.ofO, Nat.reduceAdd, Nat.reduceMul, Nat.reduceSub, Nat.reduceLT, Nat.reduceLeDiff, Nat.reduceEqDiff, ite_true, ite_false, fieldAddrP, fieldP, indexAddrP, loadP, storeP, boxP, allocP, cellsP, asVal, setSeg, outP, outT, cntT, TyK.field, TyK.agg, zeroRow, V.ren, V.renL, forall_eq_or_imp, forall_const, minmaxP, lenP, lenOf, lenStr, V.asInt, decide_true, decide_false, sliceP, boundP, makeSliceP, convertP, appendP, rowsOfP, ontoP, sizeFits, V.rowSize, TyK.src, resV, resV.go, resV.gol, retP, retOne, retAll, resTo, objsAre, Option.map_eq_map, Function.const_apply, Int.reduceNeg, Int.reduceToNat, ty2, ty3, ty4, ty5, ty37, ty41, ty113, ty139, Gl01Src.cells, cI, cB, cS, cL, Gl01Src_e, *]
    try (refine hk.use _ _ _ _ ?_; clear hk k))
 | fail)
  all_goals (try rfl)
  all_goals (try (simp; done))
  all_goals (try (simp_all; done))
def spec_l03Gen_local (k : Nat) (p0 : Gl03Gen) : Option (Int × Gl03Gen) :=
  (spec_l01Src_n k p0.s p0.locals).bind fun t1 => some (t1.1, (⟨t1.2, p0.args, p0.locals, p0.code, p0.most⟩ : Gl03Gen))
theorem c_spec_l03Gen_local {k : Nat} {p0 : Gl03Gen} {r : Int × Gl03Gen} (h : spec_l03Gen_local k p0 = some r) : Con Try.prog 115 [.mp 0 5 0 0] [.o 5 [[.mp 1 4 0 0, .sl 2 1 0 p0.args.length, V.int p0.locals, .d (.row .own 2 (Rw GI2.cells p0.code)), V.int p0.most]], .o 4 [[.d (.row .bor 1 (Rw (cI .u8) p0.s.b)), V.int p0.s.at0, .d (.p (.int .u64 p0.s.mix)), V.int p0.s.size]], .o 1 (dd (Rw (cI .i64) p0.args))] (V.int r.1) [.o 5 [[.mp 1 4 0 0, .sl 2 1 0 p0.args.length, V.int r.2.locals, .d (.row .own 2 (Rw GI2.cells r.2.code)), V.int r.2.most]], .o 4 [[.d (.row .bor 1 (Rw (cI .u8) r.2.s.b)), V.int r.2.s.at0, .d (.p (.int .u64 r.2.s.mix)), V.int r.2.s.size]], .o 1 (dd (Rw (cI .i64) r.2.args))] := by
  refine con_of_sw Try.func115 rfl Try.call115 (by simp [Try.ntmps115]) (by simp [V.inNs, V.inN]) (by simp [C.inN, V.inNss, V.inNs, V.inN, inNss_dd]) (by simp [V.inNs, V.inN]) (by simp [C.inN, V.inNss, V.inNs, V.inN, inNss_dd]) rfl ?_
  rw [Try.ntmps115, Try.results115]
  unfold spec_l03Gen_local at h
  replace h := Yes.mk h
  simp only [entryS, entryO, Nat.reduceAdd, List.length_nil, List.length_cons]
  repeat' (first
 | (with_reducible (first | refine sw_reg ?_ | refine sw_ret ?_ | refine sw_skip ?_ | refine sw_block ?_ | refine sw_exit ?_ | refine seqQ_normal ?_ | refine blockQ_normal ?_ | refine blockQ_ret ?_ | refine blockQ_this ?_ | refine blockQ_other (by decide) ?_ | refine regW_nil ?_ | refine sw_draw mixed ?_ | refine retQ_ret ?_ | refine retQ_normal ?_))
 | (with_reducible refine regD_nil ?_
    refine ⟨by kernel_rfl, ?_⟩)
 | (revert h; (first | ((with_reducible refine idx_elim ?_); intro m hm1 hm2 hm3 h; (try (simp only [Int.reduceToNat] at hm3)); (try (revert hm3; (with_reducible apply same_elim); (focus (with_reducible assumption)); rintro rfl)); (try (simp only [List.length_set, List.length_cons, List.length_nil, List.length_replicate, Nat.reduceAdd, Int.cast_ofNat_Int, Nat.zero_add, List.length_append] at hm2))) | (with_reducible refine sidx_elim ?_; intro m hm1 hm3 h) | (with_reducible refine gd_elim ?_; intro hg h; try (have hg2 := hg.2; have hg := hg.1; (try (simp only [Nat.reduceLeDiff] at hg2)); (try (revert hg2; (with_reducible refine toNat_elim hg ?_); intro hg2 hg4)); try (have hg3 := hg2.2; have hg2 := hg2.1; (try (simp only [Nat.reduceLeDiff] at hg3))))) | (with_reducible refine condt_elim ?_ ?_; (focus (with_reducible assumption)); intro h) | (with_reducible refine condf_elim ?_ ?_; (focus (with_reducible assumption)); intro h)))
 | with_reducible refine sw_seq ?_
 | with_reducible refine seqQ_ret ?_
 | with_reducible refine seqQ_exit ?_
 | ((with_reducible refine wp_ite ?_ ?_)
    all_goals (intro hc; (try (simp only [Bool.not_eq_true, Bool.not_eq_false] at hc)); simp only [hc]))
 | (with_reducible apply regW_skip
    · simp only [dstOk, Nat.reduceLT]
    · rfl
    · simp only [putSt, lk, lkb, reduceCtorEq, Nat.reduceEqDiff]; done)
 | (with_reducible apply regW_yesN
    · simp only [dstOk, Nat.reduceLT]
    · rfl
    · simp only [putSt, lk, lkb, reduceCtorEq, Nat.reduceEqDiff]; done)
 | (with_reducible apply regW_no
    · simp only [dstOk, Nat.reduceLT]
    · rfl
    · simp only [putSt, lk, lkb, reduceCtorEq, Nat.reduceEqDiff, Bool.not_true, Bool.not_false]; done)
 | (with_reducible apply regW_guardN
    · simp only [dstOk, Nat.reduceLT]
    · rfl
    · simp only [putSt, lk, lkb, reduceCtorEq, Nat.reduceEqDiff]; rfl
    all_goals (intro hc; (try (simp only [Bool.not_true, Bool.not_false] at hc))))
 | (with_reducible apply sw_cond
    · simp only [putSt, lk, lkb, reduceCtorEq, Nat.reduceEqDiff]; rfl
    all_goals (intro hc; try (cases hc; done)))
 | ((first
     | ((with_reducible refine gh_ret ?_)
        revert h
        with_reducible refine some_elim ?_
        rintro rfl)
     | (with_reducible refine here_call ?_
        revert h
        with_reducible refine bind_elim ?_
        intro t ht h
        (first
          | (refine call_obj [1] (c_spec_l01Src_n ht) (by decide) ?_ ?_
             · first | exact .inl rfl | (refine .inr ⟨?_, ?_⟩; (focus (first | rfl | (simp only [V.nb, V.nbL, D.nb, D.nbL, Md.nb, nbb, GI2_nb, Gl01Src_nb, LcIi64_nb]; done))); (focus (simp [C.nb, V.nbLL, V.nbL, V.nb, D.nb]; done)))
             simp only [argsP, argP, V.namesOf, V.namesOfL, List.mem_append, List.append_nil, List.mem_cons, or_false, or_true, true_or, objsP, C.ren, V.ren, V.renL, renLL_dd, V.renLL, List.getD_cons_zero, List.getD_cons_succ, C.o.injEq, hyb, lendAL, lendA, undd.unddR, D.lendL, D.lend, Md.lend, GI2_lend, Gl01Src_lend, LcIi64_lend, putSt, lk, lkb, reduceCtorEq, Nat.reduceEqDiff, Prog.wp, Prog.wp_bind, Prog.bind, Prog.ofO, List.take_of_length_le, *])))
     | (with_reducible apply regD_opK
        · simp only [dstOk, Nat.reduceLT]
        · simp only [Nat.reduceAdd]; rfl
        intro k hk)
     | (with_reducible apply regW_opK
        · simp only [dstOk, Nat.reduceLT]
        · simp only [Nat.reduceAdd]; rfl
        intro k hk)
     | skip)
    simp only [RetW, bn, lkb, evb, opC, opP, fetchN, fetchP, fetchAll, fetchO, Prog.bind, Prog.wp, Prog.wp_bind, lk, nameP, nameAll, Value.oneCell', putSt, stepP, putP, reduceCtorEq, V.lin, V.linL, D.lin, isNil, binP, unP, BinOp.isShift, Prog.ofO, Nat.reduceAdd, Nat.reduceMul, Nat.reduceSub, Nat.reduceLT, Nat.reduceLeDiff, Nat.reduceEqDiff, ite_true, ite_false, fieldAddrP, fieldP, indexAddrP, loadP, storeP, boxP, allocP, cellsP, asVal, setSeg, outP, outT, cntT, TyK.field, TyK.agg, zeroRow, V.ren, V.renL, forall_eq_or_imp, forall_const, minmaxP, lenP, lenOf, lenStr, V.asInt, decide_true, decide_false, sliceP, boundP, makeSliceP, convertP, appendP, rowsOfP, ontoP, sizeFits, V.rowSize, TyK.src, resV, resV.go, resV.gol, retP, retOne, retAll, resTo, objsAre, Option.map_eq_map, Function.const_apply, Int.reduceNeg, Int.reduceToNat, ty2, ty3, ty5, ty26, ty37, ty41, ty63, ty107, ty113, ty139, ty140, ty143, GI2.cells, Gl01Src.cells, cI, cB, cS, cL, GI2_e, Gl01Src_e, LcIi64_e, nilEqP, ne_eq, not_false_eq_true, not_true_eq_false, *]
    try (refine hk.use _ _ _ _ ?_; clear hk k))
 | fail)
  all_goals (try rfl)
  all_goals (try (simp; done))
  all_goals (try (simp_all; done))
def spec_l03Gen_put (p0 : Gl03Gen) (p1 : Int) (p2 : Int) : Option (Int × Gl03Gen) :=
  gd ((p0.code.length + 1) * 16 ≤ 35184372088832 ∧ p0.code.length + 1 ≤ 35184372088832) (some ((IntKind.i64.wrap (((((p0.code ++ [(⟨p1, p2⟩ : GI2)])).length : Int)) - 1)), (⟨p0.s, p0.args, p0.locals, (p0.code ++ [(⟨p1, p2⟩ : GI2)]), p0.most⟩ : Gl03Gen)))
theorem c_spec_l03Gen_put {p0 : Gl03Gen} {p1 : Int} {p2 : Int} {r : Int × Gl03Gen} (h : spec_l03Gen_put p0 p1 p2 = some r) : Con Try.prog 98 [.mp 0 5 0 0, V.int p1, V.int p2] [.o 5 [[.mp 1 4 0 0, .sl 2 1 0 p0.args.length, V.int p0.locals, .d (.row .own 2 (Rw GI2.cells p0.code)), V.int p0.most]], .o 4 [[.d (.row .bor 1 (Rw (cI .u8) p0.s.b)), V.int p0.s.at0, .d (.p (.int .u64 p0.s.mix)), V.int p0.s.size]], .o 1 (dd (Rw (cI .i64) p0.args))] (V.int r.1) [.o 5 [[.mp 1 4 0 0, .sl 2 1 0 p0.args.length, V.int r.2.locals, .d (.row .own 2 (Rw GI2.cells r.2.code)), V.int r.2.most]], .o 4 [[.d (.row .bor 1 (Rw (cI .u8) r.2.s.b)), V.int r.2.s.at0, .d (.p (.int .u64 r.2.s.mix)), V.int r.2.s.size]], .o 1 (dd (Rw (cI .i64) r.2.args))] := by
  refine con_of_sw Try.func98 rfl Try.call98 (by simp [Try.ntmps98]) (by simp [V.inNs, V.inN]) (by simp [C.inN, V.inNss, V.inNs, V.inN, inNss_dd]) (by simp [V.inNs, V.inN]) (by simp [C.inN, V.inNss, V.inNs, V.inN, inNss_dd]) rfl ?_
  rw [Try.ntmps98, Try.results98]
  unfold spec_l03Gen_put at h
  replace h := Yes.mk h
  simp only [entryS, entryO, Nat.reduceAdd, List.length_nil, List.length_cons]
  repeat' (first
 | (with_reducible (first | refine sw_reg ?_ | refine sw_ret ?_ | refine sw_skip ?_ | refine sw_block ?_ | refine sw_exit ?_ | refine seqQ_normal ?_ | refine blockQ_normal ?_ | refine blockQ_ret ?_ | refine blockQ_this ?_ | refine blockQ_other (by decide) ?_ | refine regW_nil ?_ | refine sw_draw mixed ?_ | refine retQ_ret ?_ | refine retQ_normal ?_))
 | (with_reducible refine regD_nil ?_
    refine ⟨by kernel_rfl, ?_⟩)
 | (revert h; (first | ((with_reducible refine idx_elim ?_); intro m hm1 hm2 hm3 h; (try (simp only [Int.reduceToNat] at hm3)); (try (revert hm3; (with_reducible apply same_elim); (focus (with_reducible assumption)); rintro rfl)); (try (simp only [List.length_set, List.length_cons, List.length_nil, List.length_replicate, Nat.reduceAdd, Int.cast_ofNat_Int, Nat.zero_add, List.length_append] at hm2))) | (with_reducible refine sidx_elim ?_; intro m hm1 hm3 h) | (with_reducible refine gd_elim ?_; intro hg h; try (have hg2 := hg.2; have hg := hg.1; (try (simp only [Nat.reduceLeDiff] at hg2)); (try (revert hg2; (with_reducible refine toNat_elim hg ?_); intro hg2 hg4)); try (have hg3 := hg2.2; have hg2 := hg2.1; (try (simp only [Nat.reduceLeDiff] at hg3))))) | (with_reducible refine condt_elim ?_ ?_; (focus (with_reducible assumption)); intro h) | (with_reducible refine condf_elim ?_ ?_; (focus (with_reducible assumption)); intro h)))
 | with_reducible refine sw_seq ?_
 | with_reducible refine seqQ_ret ?_
 | with_reducible refine seqQ_exit ?_
 | (with_reducible refine here_retw ?_
    with_reducible apply gh_resSl 0 3
    · simp only [putSt, lk, lkb, reduceCtorEq, Nat.reduceEqDiff]; rfl
    · rfl
    simp only [rxb, Nat.reduceAdd, Nat.reduceLeDiff, resSlotP, nameSlotP, Prog.wp, Prog.wp_bind, Prog.bind, Prog.ofO, putSt, lk, lkb, reduceCtorEq, Nat.reduceEqDiff, resV, resV.go, resV.gol, nameAll, nameP, outP, outT, cntT, V.lin, D.lin, *])
 | ((with_reducible refine wp_ite ?_ ?_)
    all_goals (intro hc; (try (simp only [Bool.not_eq_true, Bool.not_eq_false] at hc)); simp only [hc]))
 | (with_reducible apply regW_skip
    · simp only [dstOk, Nat.reduceLT]
    · rfl
    · simp only [putSt, lk, lkb, reduceCtorEq, Nat.reduceEqDiff]; done)
 | (with_reducible apply regW_yesN
    · simp only [dstOk, Nat.reduceLT]
    · rfl
    · simp only [putSt, lk, lkb, reduceCtorEq, Nat.reduceEqDiff]; done)
 | (with_reducible apply regW_no
    · simp only [dstOk, Nat.reduceLT]
    · rfl
    · simp only [putSt, lk, lkb, reduceCtorEq, Nat.reduceEqDiff, Bool.not_true, Bool.not_false]; done)
 | (with_reducible apply regW_guardN
    · simp only [dstOk, Nat.reduceLT]
    · rfl
    · simp only [putSt, lk, lkb, reduceCtorEq, Nat.reduceEqDiff]; rfl
    all_goals (intro hc; (try (simp only [Bool.not_true, Bool.not_false] at hc))))
 | (with_reducible apply sw_cond
    · simp only [putSt, lk, lkb, reduceCtorEq, Nat.reduceEqDiff]; rfl
    all_goals (intro hc; try (cases hc; done)))
 | ((first
     | ((with_reducible refine gh_ret ?_)
        revert h
        with_reducible refine some_elim ?_
        rintro rfl)
     | (with_reducible apply regD_opK
        · simp only [dstOk, Nat.reduceLT]
        · simp only [Nat.reduceAdd]; rfl
        intro k hk)
     | (with_reducible apply regW_opK
        · simp only [dstOk, Nat.reduceLT]
        · simp only [Nat.reduceAdd]; rfl
        intro k hk)
     | skip)
    simp only [RetW, bn, lkb, evb, opC, opP, fetchN, fetchP, fetchAll, fetchO, Prog.bind, Prog.wp, Prog.wp_bind, lk, nameP, nameAll, Value.oneCell', putSt, stepP, putP, reduceCtorEq, V.lin, V.linL, D.lin, isNil, binP, unP, BinOp.isShift, Prog.ofO, Nat.reduceAdd, Nat.reduceMul, Nat.reduceSub, Nat.reduceLT, Nat.reduceLeDiff, Nat.reduceEqDiff, ite_true, ite_false, fieldAddrP, fieldP, indexAddrP, loadP, storeP, boxP, allocP, cellsP, asVal, setSeg, outP, outT, cntT, TyK.field, TyK.agg, zeroRow, V.ren, V.renL, forall_eq_or_imp, forall_const, minmaxP, lenP, lenOf, lenStr, V.asInt, decide_true, decide_false, sliceP, boundP, makeSliceP, convertP, appendP, rowsOfP, ontoP, sizeFits, V.rowSize, TyK.src, resV, resV.go, resV.gol, retP, retOne, retAll, resTo, objsAre, Option.map_eq_map, Function.const_apply, Int.reduceNeg, Int.reduceToNat, ty2, ty3, ty5, ty26, ty37, ty41, ty63, ty107, ty113, ty139, ty140, ty143, GI2.cells, Gl01Src.cells, cI, cB, cS, cL, GI2_e, Gl01Src_e, LcIi64_e, buildP, buildSliceP, putParts, structPlaces, chunks, List.replicate, List.flatten_nil, List.flatten_cons, Option.bind_some, bb, GI2_b, Gl01Src_b, LcIi64_b, nilEqP, ne_eq, not_false_eq_true, not_true_eq_false, *]
    try (refine hk.use _ _ _ _ ?_; clear hk k))
 | fail)
  all_goals (try rfl)
  all_goals (try (simp; done))
  all_goals (try (simp_all; done))
def spec_l01Src_edge (k : Nat) (p0 : Gl01Src) : Option (Int × Gl01Src) :=
  (spec_l01Src_n k p0 14).bind fun t1 => (idx ([0, 1, (-1), 2, 1000, 1001, 2147483648, 2147483647, (-2147483648), 4611686018427387904, 9223372036854775807, (-9223372036854775808), 1000000, 1000001]) t1.1).bind fun m2 => some (m2, t1.2)
theorem c_spec_l01Src_edge {k : Nat} {p0 : Gl01Src} {r : Int × Gl01Src} (h : spec_l01Src_edge k p0 = some r) : Con Try.prog 123 [.mp 0 4 0 0] [.o 4 [[.d (.row .bor 1 (Rw (cI .u8) p0.b)), V.int p0.at0, .d (.p (.int .u64 p0.mix)), V.int p0.size]]] (V.int r.1) [.o 4 [[.d (.row .bor 1 (Rw (cI .u8) r.2.b)), V.int r.2.at0, .d (.p (.int .u64 r.2.mix)), V.int r.2.size]]] := by
  refine con_of_sw Try.func123 rfl Try.call123 (by simp [Try.ntmps123]) (by simp [V.inNs, V.inN]) (by simp [C.inN, V.inNss, V.inNs, V.inN, inNss_dd]) (by simp [V.inNs, V.inN]) (by simp [C.inN, V.inNss, V.inNs, V.inN, inNss_dd]) rfl ?_
  rw [Try.ntmps123, Try.results123]
  unfold spec_l01Src_edge at h
  replace h := Yes.mk h
  simp only [entryS, entryO, Nat.reduceAdd, List.length_nil, List.length_cons]
  repeat' (first
 | (with_reducible (first | refine sw_reg ?_ | refine sw_ret ?_ | refine sw_skip ?_ | refine sw_block ?_ | refine sw_exit ?_ | refine seqQ_normal ?_ | refine blockQ_normal ?_ | refine blockQ_ret ?_ | refine blockQ_this ?_ | refine blockQ_other (by decide) ?_ | refine regW_nil ?_ | refine sw_draw mixed ?_ | refine retQ_ret ?_ | refine retQ_normal ?_))
 | (with_reducible refine regD_nil ?_
    refine ⟨by kernel_rfl, ?_⟩)
 | (revert h; (first | ((with_reducible refine idx_elim ?_); intro m hm1 hm2 hm3 h; (try (simp only [Int.reduceToNat] at hm3)); (try (revert hm3; (with_reducible apply same_elim); (focus (with_reducible assumption)); rintro rfl)); (try (simp only [List.length_set, List.length_cons, List.length_nil, List.length_replicate, Nat.reduceAdd, Int.cast_ofNat_Int, Nat.zero_add, List.length_append] at hm2))) | (with_reducible refine sidx_elim ?_; intro m hm1 hm3 h) | (with_reducible refine gd_elim ?_; intro hg h; try (have hg2 := hg.2; have hg := hg.1; (try (simp only [Nat.reduceLeDiff] at hg2)); (try (revert hg2; (with_reducible refine toNat_elim hg ?_); intro hg2 hg4)); try (have hg3 := hg2.2; have hg2 := hg2.1; (try (simp only [Nat.reduceLeDiff] at hg3))))) | (with_reducible refine condt_elim ?_ ?_; (focus (with_reducible assumption)); intro h) | (with_reducible refine condf_elim ?_ ?_; (focus (with_reducible assumption)); intro h)))
 | with_reducible refine sw_seq ?_
 | with_reducible refine seqQ_ret ?_
 | with_reducible refine seqQ_exit ?_
 | ((with_reducible refine wp_ite ?_ ?_)
    all_goals (intro hc; (try (simp only [Bool.not_eq_true, Bool.not_eq_false] at hc)); simp only [hc]))
 | (with_reducible apply regW_skip
    · simp only [dstOk, Nat.reduceLT]
    · rfl
    · simp only [putSt, lk, lkb, reduceCtorEq, Nat.reduceEqDiff]; done)
 | (with_reducible apply regW_yesN
    · simp only [dstOk, Nat.reduceLT]
    · rfl
    · simp only [putSt, lk, lkb, reduceCtorEq, Nat.reduceEqDiff]; done)
 | (with_reducible apply regW_no
    · simp only [dstOk, Nat.reduceLT]
    · rfl
    · simp only [putSt, lk, lkb, reduceCtorEq, Nat.reduceEqDiff, Bool.not_true, Bool.not_false]; done)
 | (with_reducible apply regW_guardN
    · simp only [dstOk, Nat.reduceLT]
    · rfl
    · simp only [putSt, lk, lkb, reduceCtorEq, Nat.reduceEqDiff]; rfl
    all_goals (intro hc; (try (simp only [Bool.not_true, Bool.not_false] at hc))))
 | (with_reducible apply sw_cond
    · simp only [putSt, lk, lkb, reduceCtorEq, Nat.reduceEqDiff]; rfl
    all_goals (intro hc; try (cases hc; done)))
 | ((first
     | ((with_reducible refine gh_ret ?_)
        revert h
        with_reducible refine some_elim ?_
        rintro rfl)
     | (with_reducible refine here_call ?_
        revert h
        with_reducible refine bind_elim ?_
        intro t ht h
        (first
          | (refine call_obj [0] (c_spec_l01Src_n ht) (by decide) ?_ ?_
             · first | exact .inl rfl | (refine .inr ⟨?_, ?_⟩; (focus (first | rfl | (simp only [V.nb, V.nbL, D.nb, D.nbL, Md.nb, nbb, Gl01Src_nb, LcIi64_nb]; done))); (focus (simp [C.nb, V.nbLL, V.nbL, V.nb, D.nb]; done)))
             simp only [argsP, argP, V.namesOf, V.namesOfL, List.mem_append, List.append_nil, List.mem_cons, or_false, or_true, true_or, objsP, C.ren, V.ren, V.renL, renLL_dd, V.renLL, List.getD_cons_zero, List.getD_cons_succ, C.o.injEq, hyb, lendAL, lendA, undd.unddR, D.lendL, D.lend, Md.lend, Gl01Src_lend, LcIi64_lend, putSt, lk, lkb, reduceCtorEq, Nat.reduceEqDiff, Prog.wp, Prog.wp_bind, Prog.bind, Prog.ofO, List.take_of_length_le, *])))
     | (with_reducible apply regD_opK
        · simp only [dstOk, Nat.reduceLT]
        · simp only [Nat.reduceAdd]; rfl
        intro k hk)
     | (with_reducible apply regW_opK
        · simp only [dstOk, Nat.reduceLT]
        · simp only [Nat.reduceAdd]; rfl
        intro k hk)
     | skip)
    simp only [RetW, bn, lkb, evb, opC, opP, fetchN, fetchP, fetchAll, fetchO, Prog.bind, Prog.wp, Prog.wp_bind, lk, nameP, nameAll, Value.oneCell', putSt, stepP, putP, reduceCtorEq, V.lin, V.linL, D.lin, isNil, binP, unP, BinOp.isShift, Prog.ofO, Nat.reduceAdd, Nat.reduceMul, Nat.reduceSub, Nat.reduceLT, Nat.reduceLeDiff, Nat.reduceEqDiff, ite_true, ite_false, fieldAddrP, fieldP, indexAddrP, loadP, storeP, boxP, allocP, cellsP, asVal, setSeg, outP, outT, cntT, TyK.field, TyK.agg, zeroRow, V.ren, V.renL, forall_eq_or_imp, forall_const, minmaxP, lenP, lenOf, lenStr, V.asInt, decide_true, decide_false, sliceP, boundP, makeSliceP, convertP, appendP, rowsOfP, ontoP, sizeFits, V.rowSize, TyK.src, resV, resV.go, resV.gol, retP, retOne, retAll, resTo, objsAre, Option.map_eq_map, Function.const_apply, Int.reduceNeg, Int.reduceToNat, ty2, ty3, ty5, ty9, ty12, ty14, ty26, ty37, ty41, ty113, ty139, Gl01Src.cells, cI, cB, cS, cL, Gl01Src_e, LcIi64_e, buildP, buildSliceP, putParts, structPlaces, chunks, List.replicate, List.flatten_nil, List.flatten_cons, Option.bind_some, bb, Gl01Src_b, LcIi64_b, *]
    try (refine hk.use _ _ _ _ ?_; clear hk k))
 | fail)
  all_goals (try rfl)
  all_goals (try (simp; done))
  all_goals (try (simp_all; done))
def spec_l01Src_l02Num (k : Nat) (p0 : Gl01Src) : Option (Int × Gl01Src) :=
  (spec_l01Src_n k p0 5).bind fun t1 => cond ((t1.1 == 0)) ((spec_l01Src_edge k t1.2).bind fun t2 => some (t2.1, t2.2)) (cond ((t1.1 == 1)) ((spec_l01Src_n k t1.2 9).bind fun t3 => some ((IntKind.i64.wrap (t3.1 - 4)), t3.2)) (cond ((t1.1 == 2)) ((spec_l01Src_n k t1.2 10).bind fun t4 => (idx ([127, 128, (-128), (-129), 32767, 32768, 65535, 4294967295, 4294967296, (-2147483649)]) t4.1).bind fun m5 => some (m5, t4.2)) ((spec_l01Src_n k t1.2 1099511627776).bind fun t6 => some ((IntKind.i64.wrap (t6.1 - 549755813888)), t6.2))))
theorem c_spec_l01Src_l02Num {k : Nat} {p0 : Gl01Src} {r : Int × Gl01Src} (h : spec_l01Src_l02Num k p0 = some r) : Con Try.prog 116 [.mp 0 4 0 0] [.o 4 [[.d (.row .bor 1 (Rw (cI .u8) p0.b)), V.int p0.at0, .d (.p (.int .u64 p0.mix)), V.int p0.size]]] (V.int r.1) [.o 4 [[.d (.row .bor 1 (Rw (cI .u8) r.2.b)), V.int r.2.at0, .d (.p (.int .u64 r.2.mix)), V.int r.2.size]]] := by
  refine con_of_sw Try.func116 rfl Try.call116 (by simp [Try.ntmps116]) (by simp [V.inNs, V.inN]) (by simp [C.inN, V.inNss, V.inNs, V.inN, inNss_dd]) (by simp [V.inNs, V.inN]) (by simp [C.inN, V.inNss, V.inNs, V.inN, inNss_dd]) rfl ?_
  rw [Try.ntmps116, Try.results116]
  unfold spec_l01Src_l02Num at h
  replace h := Yes.mk h
  simp only [entryS, entryO, Nat.reduceAdd, List.length_nil, List.length_cons]
  repeat' (first
 | (with_reducible (first | refine sw_reg ?_ | refine sw_ret ?_ | refine sw_skip ?_ | refine sw_block ?_ | refine sw_exit ?_ | refine seqQ_normal ?_ | refine blockQ_normal ?_ | refine blockQ_ret ?_ | refine blockQ_this ?_ | refine blockQ_other (by decide) ?_ | refine regW_nil ?_ | refine sw_draw mixed ?_ | refine retQ_ret ?_ | refine retQ_normal ?_))
 | (with_reducible refine regD_nil ?_
    refine ⟨by kernel_rfl, ?_⟩)
 | (revert h; (first | ((with_reducible refine idx_elim ?_); intro m hm1 hm2 hm3 h; (try (simp only [Int.reduceToNat] at hm3)); (try (revert hm3; (with_reducible apply same_elim); (focus (with_reducible assumption)); rintro rfl)); (try (simp only [List.length_set, List.length_cons, List.length_nil, List.length_replicate, Nat.reduceAdd, Int.cast_ofNat_Int, Nat.zero_add, List.length_append] at hm2))) | (with_reducible refine sidx_elim ?_; intro m hm1 hm3 h) | (with_reducible refine gd_elim ?_; intro hg h; try (have hg2 := hg.2; have hg := hg.1; (try (simp only [Nat.reduceLeDiff] at hg2)); (try (revert hg2; (with_reducible refine toNat_elim hg ?_); intro hg2 hg4)); try (have hg3 := hg2.2; have hg2 := hg2.1; (try (simp only [Nat.reduceLeDiff] at hg3))))) | (with_reducible refine condt_elim ?_ ?_; (focus (with_reducible assumption)); intro h) | (with_reducible refine condf_elim ?_ ?_; (focus (with_reducible assumption)); intro h)))
 | with_reducible refine sw_seq ?_
 | with_reducible refine seqQ_ret ?_
 | with_reducible refine seqQ_exit ?_
 | ((with_reducible refine wp_ite ?_ ?_)
    all_goals (intro hc; (try (simp only [Bool.not_eq_true, Bool.not_eq_false] at hc)); simp only [hc]))
 | (with_reducible apply regW_skip
    · simp only [dstOk, Nat.reduceLT]
    · rfl
    · simp only [putSt, lk, lkb, reduceCtorEq, Nat.reduceEqDiff]; done)
 | (with_reducible apply regW_yesN
    · simp only [dstOk, Nat.reduceLT]
    · rfl
    · simp only [putSt, lk, lkb, reduceCtorEq, Nat.reduceEqDiff]; done)
 | (with_reducible apply regW_no
    · simp only [dstOk, Nat.reduceLT]
    · rfl
    · simp only [putSt, lk, lkb, reduceCtorEq, Nat.reduceEqDiff, Bool.not_true, Bool.not_false]; done)
 | (with_reducible apply regW_guardN
    · simp only [dstOk, Nat.reduceLT]
    · rfl
    · simp only [putSt, lk, lkb, reduceCtorEq, Nat.reduceEqDiff]; rfl
    all_goals (intro hc; (try (simp only [Bool.not_true, Bool.not_false] at hc))))
 | (with_reducible apply sw_cond
    · simp only [putSt, lk, lkb, reduceCtorEq, Nat.reduceEqDiff]; rfl
    all_goals (intro hc; try (cases hc; done)))
 | ((first
     | ((with_reducible refine gh_ret ?_)
        revert h
        with_reducible refine some_elim ?_
        rintro rfl)
     | (with_reducible refine here_call ?_
        revert h
        with_reducible refine bind_elim ?_
        intro t ht h
        (first
          | (refine call_obj [0] (c_spec_l01Src_n ht) (by decide) ?_ ?_
             · first | exact .inl rfl | (refine .inr ⟨?_, ?_⟩; (focus (first | rfl | (simp only [V.nb, V.nbL, D.nb, D.nbL, Md.nb, nbb, Gl01Src_nb, LcIi64_nb]; done))); (focus (simp [C.nb, V.nbLL, V.nbL, V.nb, D.nb]; done)))
             simp only [argsP, argP, V.namesOf, V.namesOfL, List.mem_append, List.append_nil, List.mem_cons, or_false, or_true, true_or, objsP, C.ren, V.ren, V.renL, renLL_dd, V.renLL, List.getD_cons_zero, List.getD_cons_succ, C.o.injEq, hyb, lendAL, lendA, undd.unddR, D.lendL, D.lend, Md.lend, Gl01Src_lend, LcIi64_lend, putSt, lk, lkb, reduceCtorEq, Nat.reduceEqDiff, Prog.wp, Prog.wp_bind, Prog.bind, Prog.ofO, List.take_of_length_le, *])
          | (refine call_obj [0] (c_spec_l01Src_edge ht) (by decide) ?_ ?_
             · first | exact .inl rfl | (refine .inr ⟨?_, ?_⟩; (focus (first | rfl | (simp only [V.nb, V.nbL, D.nb, D.nbL, Md.nb, nbb, Gl01Src_nb, LcIi64_nb]; done))); (focus (simp [C.nb, V.nbLL, V.nbL, V.nb, D.nb]; done)))
             simp only [argsP, argP, V.namesOf, V.namesOfL, List.mem_append, List.append_nil, List.mem_cons, or_false, or_true, true_or, objsP, C.ren, V.ren, V.renL, renLL_dd, V.renLL, List.getD_cons_zero, List.getD_cons_succ, C.o.injEq, hyb, lendAL, lendA, undd.unddR, D.lendL, D.lend, Md.lend, Gl01Src_lend, LcIi64_lend, putSt, lk, lkb, reduceCtorEq, Nat.reduceEqDiff, Prog.wp, Prog.wp_bind, Prog.bind, Prog.ofO, List.take_of_length_le, *])))
     | (with_reducible apply regD_opK
        · simp only [dstOk, Nat.reduceLT]
        · simp only [Nat.reduceAdd]; rfl
        intro k hk)
     | (with_reducible apply regW_opK
        · simp only [dstOk, Nat.reduceLT]
        · simp only [Nat.reduceAdd]; rfl
        intro k hk)
     | skip)
    simp only [RetW, bn, lkb, evb, opC, opP, fetchN, fetchP, fetchAll, fetchO, Prog.bind, Prog.wp, Prog.wp_bind, lk, nameP, nameAll, Value.oneCell', putSt, stepP, putP, reduceCtorEq, V.lin, V.linL, D.lin, isNil, binP, unP, BinOp.isShift, Prog.ofO, Nat.reduceAdd, Nat.reduceMul, Nat.reduceSub, Nat.reduceLT, Nat.reduceLeDiff, Nat.reduceEqDiff, ite_true, ite_false, fieldAddrP, fieldP, indexAddrP, loadP, storeP, boxP, allocP, cellsP, asVal, setSeg, outP, outT, cntT, TyK.field, TyK.agg, zeroRow, V.ren, V.renL, forall_eq_or_imp, forall_const, minmaxP, lenP, lenOf, lenStr, V.asInt, decide_true, decide_false, sliceP, boundP, makeSliceP, convertP, appendP, rowsOfP, ontoP, sizeFits, V.rowSize, TyK.src, resV, resV.go, resV.gol, retP, retOne, retAll, resTo, objsAre, Option.map_eq_map, Function.const_apply, Int.reduceNeg, Int.reduceToNat, ty2, ty3, ty5, ty10, ty26, ty37, ty41, ty113, ty139, Gl01Src.cells, cI, cB, cS, cL, Gl01Src_e, LcIi64_e, buildP, buildSliceP, putParts, structPlaces, chunks, List.replicate, List.flatten_nil, List.flatten_cons, Option.bind_some, bb, Gl01Src_b, LcIi64_b, *]
    try (refine hk.use _ _ _ _ ?_; clear hk k))
 | fail)
  all_goals (try rfl)
  all_goals (try (simp; done))
  all_goals (try (simp_all; done))
end Go.Proofs.Ytdlaplgofgklnaa