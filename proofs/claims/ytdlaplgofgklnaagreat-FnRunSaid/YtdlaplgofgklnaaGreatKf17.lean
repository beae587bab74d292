/- WHAT IS PROVED: an abstract walker over the model, what some functions of the program answer, and laws of these answers. Conditions: none. -/
import Derived.Test.YtdlaplgofgklnaaGreatKf14
namespace Go.Proofs.YtdlaplgofgklnaaGreat
open Go.Proofs Go.Proofs.YtdlaplgofgklnaaGreat.L
set_option maxHeartbeats 8000000
set_option linter.unusedSimpArgs false
set_option linter.unusedVariables false
set_option maxRecDepth 100000
set_option linter.defProp false
def impl_ownState (k : Nat) (p0 : GState) : Option (GState) :=
  (impl_prog_runOf k ((⟨(⟨[]⟩ : GProgram), []⟩ : Gprog)) p0).bind fun t1 => (impl_run_state t1).bind fun t2 => some t2
def impl_prog_stateRight.l1 : Nat → (List GFrame) → (List (List Int)) → (List Int) → Int → Bool → Int → Int → Gprog → (List GFrame) → Int → Int → Option ((Bool) ⊕ (Unit))
  | 0, _, _, _, _, _, _, _, _, _, _, _ => none
  | k + 1, a1, a2, a3, a4, a5, a6, a7, a8, a9, a10, a11 => cond ((decide (a11 < a10))) ((idx a9 a11).bind fun m2 => cond ((decide (((IntKind.i64.wrap (a11 + 1))) < ((a1.length : Int))))) ((idx a1 ((IntKind.i64.wrap (a11 + 1)))).bind fun m3 => (impl_prog_frameRight a8 m2 m3.func0).bind fun t4 => cond ((!t4)) (some (.inl (false))) (impl_prog_stateRight.l1 k a1 a2 a3 a4 a5 a6 a7 a8 a9 a10 ((IntKind.i64.wrap (a11 + 1))))) ((impl_prog_frameRight a8 m2 ((-1))).bind fun t5 => cond ((!t5)) (some (.inl (false))) (impl_prog_stateRight.l1 k a1 a2 a3 a4 a5 a6 a7 a8 a9 a10 ((IntKind.i64.wrap (a11 + 1)))))) (some (.inr ()))
def impl_prog_stateRight (k : Nat) (p0 : Gprog) (p1 : GState) : Option (Bool) :=
  (impl_world_right k ((⟨p1.heap, p1.out, p1.fuel0, p1.done, p1.value, p1.trap⟩ : Gworld)) ((p1.frames.length : Int))).bind fun t1 => cond ((!t1)) (some false) ((impl_prog_stateRight.l1 k p1.frames p1.heap p1.out p1.fuel0 p1.done p1.value p1.trap p0 p1.frames ((p1.frames.length : Int)) 0).bind fun o1 => Sum.elim (fun o1l => some o1l) (fun o1r => some true) o1)
def impl_verify.a1 (k : Nat) (a1 : (List GFunc)) (a2 : GI3) : Option ((GI3 × (List (List Int))) ⊕ ((List GFunc) × GI3)) :=
  cond ((decide (((a1.length : Int)) < 1))) (some (.inl ((⟨0, 0, 1⟩ : GI3), []))) (cond ((decide (((a1.length : Int)) > 6))) (some (.inl ((⟨0, 0, 1⟩ : GI3), []))) (some (.inr (a1, a2))))
def impl_verify.a4 (k : Nat) (a1 : (List GFunc)) (a2 : GI3) (a3 : (List (List Int))) (a4 : Int) (a5 : Int) (a6 : (List GI2)) (a7 : Int) (a8 : (List GFunc)) (a9 : Int) (a10 : Int) : Option ((GI3 × (List (List Int))) ⊕ ((List GFunc) × GI3 × (List (List Int)) × Int × Int × (List GI2) × Int × (List GFunc) × Int × Int)) :=
  (impl_in a4 0 4).bind fun t2 => cond ((!t2)) (some (.inl ((⟨a7, 0, 1⟩ : GI3), []))) ((impl_in a5 a4 8).bind fun t3 => cond ((!t3)) (some (.inl ((⟨a7, 0, 1⟩ : GI3), []))) ((impl_in ((a6.length : Int)) 1 60).bind fun t4 => cond ((!t4)) (some (.inl ((⟨a7, 0, 1⟩ : GI3), []))) (some (.inr (a1, a2, a3, a4, a5, a6, a7, a8, a9, a10)))))
def impl_verify.l5 : Nat → (List GFunc) → GI3 → (List (List Int)) → Int → (List GFunc) → Int → Int → (List GI2) → Int → Int → Option ((GI3 × (List (List Int))) ⊕ ((List GFunc) × GI3 × (List (List Int)) × Int × (List GFunc) × Int × Int))
  | 0, _, _, _, _, _, _, _, _, _, _ => none
  | k + 1, a1, a2, a3, a4, a5, a6, a7, a8, a9, a10 => cond ((decide (a10 < a9))) ((idx a8 a10).bind fun m5 => (impl_InsRight k ((⟨a1⟩ : GProgram)) a4 m5).bind fun t6 => cond ((!t6)) (some (.inl ((⟨a4, a10, 1⟩ : GI3), []))) (impl_verify.l5 k a1 a2 a3 a4 a5 a6 a7 a8 a9 ((IntKind.i64.wrap (a10 + 1))))) (some (.inr (a1, a2, a3, a4, a5, a6, a7)))
def impl_verify.a3 (k : Nat) (a1 : (List GFunc)) (a2 : GI3) (a3 : (List (List Int))) (a4 : (List GFunc)) (a5 : Int) (a6 : Int) : Option ((GI3 × (List (List Int))) ⊕ ((List GFunc) × GI3 × (List (List Int)) × (List GFunc) × Int × Int)) :=
  (idx a4 a6).bind fun m1 => (impl_verify.a4 k a1 a2 a3 m1.args m1.locals m1.code a6 a4 a5 a6).bind fun o4 => Sum.elim (fun o4l => some (.inl (o4l.1, o4l.2))) (fun o4r => (impl_verify.l5 k o4r.1 o4r.2.1 o4r.2.2.1 o4r.2.2.2.2.2.2.1 o4r.2.2.2.2.2.2.2.1 o4r.2.2.2.2.2.2.2.2.1 o4r.2.2.2.2.2.2.2.2.2 o4r.2.2.2.2.2.1 ((o4r.2.2.2.2.2.1.length : Int)) 0).bind fun o5 => Sum.elim (fun o5l => some (.inl (o5l.1, o5l.2))) (fun o5r => (impl_heightsOf k ((⟨o5r.1⟩ : GProgram)) o5r.2.2.2.1).bind fun t7 => cond ((t7.2.2 != 0)) (some (.inl ((⟨o5r.2.2.2.1, t7.2.1, t7.2.2⟩ : GI3), []))) (gd ((o5r.2.2.1.length + 1) * 24 ≤ 35184372088832 ∧ o5r.2.2.1.length + 1 ≤ 35184372088832) (some (.inr (o5r.1, o5r.2.1, (o5r.2.2.1 ++ [t7.1]), o5r.2.2.2.2.1, o5r.2.2.2.2.2.1, o5r.2.2.2.2.2.2))))) o5) o4
def impl_verify.l2 : Nat → (List GFunc) → GI3 → (List (List Int)) → (List GFunc) → Int → Int → Option ((GI3 × (List (List Int))) ⊕ (GI3 × (List (List Int))))
  | 0, _, _, _, _, _, _ => none
  | k + 1, a1, a2, a3, a4, a5, a6 => cond ((decide (a6 < a5))) ((impl_verify.a3 k a1 a2 a3 a4 a5 a6).bind fun o3 => Sum.elim (fun o3l => some (.inl (o3l.1, o3l.2))) (fun o3r => impl_verify.l2 k o3r.1 o3r.2.1 o3r.2.2.1 o3r.2.2.2.1 o3r.2.2.2.2.1 ((IntKind.i64.wrap (o3r.2.2.2.2.2 + 1)))) o3) (some (.inr (a2, a3)))
def impl_verify (k : Nat) (p0 : GProgram) : Option (GI3 × (List (List Int))) :=
  (impl_verify.a1 k p0.funcs ((⟨0, 0, 0⟩ : GI3))).bind fun o1 => Sum.elim (fun o1l => some (o1l.1, o1l.2)) (fun o1r => (impl_verify.l2 k o1r.1 o1r.2 [] o1r.1 ((o1r.1.length : Int)) 0).bind fun o2 => Sum.elim (fun o2l => some (o2l.1, o2l.2)) (fun o2r => some ((⟨0, 0, 0⟩ : GI3), o2r.2)) o2) o1
def spec_Verify.a1 (k : Nat) (a1 : (List GFunc)) (a2 : GI3) : Option ((GI3) ⊕ ((List GFunc) × GI3)) :=
  cond ((decide (((a1.length : Int)) < 1))) (some (.inl ((⟨0, 0, 1⟩ : GI3)))) (cond ((decide (((a1.length : Int)) > 6))) (some (.inl ((⟨0, 0, 1⟩ : GI3)))) (some (.inr (a1, a2))))
def spec_Verify.l2 : Nat → (List GFunc) → GI3 → Int → Option ((GI3) ⊕ (GI3))
  | 0, _, _, _ => none
  | k + 1, a1, a2, a3 => cond ((decide (a3 < ((a1.length : Int))))) ((spec_l04Func k ((⟨a1⟩ : GProgram)) a3).bind fun t1 => cond ((t1.c != 0)) (some (.inl (t1))) (spec_Verify.l2 k a1 a2 ((IntKind.i64.wrap (a3 + 1))))) (some (.inr (a2)))
def spec_Verify (k : Nat) (p0 : GProgram) : Option (GI3) :=
  (spec_Verify.a1 k p0.funcs ((⟨0, 0, 0⟩ : GI3))).bind fun o1 => Sum.elim (fun o1l => some o1l) (fun o1r => (spec_Verify.l2 k o1r.1 o1r.2 0).bind fun o2 => Sum.elim (fun o2l => some o2l) (fun o2r => some ((⟨0, 0, 0⟩ : GI3))) o2) o1
theorem gr23 : (∀ {k : Nat} {p0 : GState} {r : GState}, impl_ownState k p0 = some r → Con Tryz.prog 32 [.agg [.d (.row .bor 4 (Rw (GFrame.cells .bor) p0.frames)), .d (.row .bor 1 (Rw (cL .bor 1 (cI .i64)) p0.heap)), .d (.row .bor 1 (Rw (cI .i64) p0.out)), V.int p0.fuel0, V.bool p0.done, V.int p0.value, V.int p0.trap]] [] (.agg [.d (.row .own 4 (Rw (GFrame.cells .own) r.frames)), .d (.row .own 1 (Rw (cL .own 1 (cI .i64)) r.heap)), .d (.row .own 1 (Rw (cI .i64) r.out)), V.int r.fuel0, V.bool r.done, V.int r.value, V.int r.trap]) []) ∧
  (∀ {k : Nat} {p0 : Gprog} {p1 : GState} {r : Bool}, impl_prog_stateRight k p0 p1 = some r → Con Tryz.prog 31 [.d (.ptr .bor [.row .bor 3 (Rw (GFunc.cells .bor) p0.program.funcs), .row .bor 1 (Rw (cL .bor 1 (cI .i64)) p0.h)]), .agg [.d (.row .bor 4 (Rw (GFrame.cells .bor) p1.frames)), .d (.row .bor 1 (Rw (cL .bor 1 (cI .i64)) p1.heap)), .d (.row .bor 1 (Rw (cI .i64) p1.out)), V.int p1.fuel0, V.bool p1.done, V.int p1.value, V.int p1.trap]] [] (V.bool r) []) ∧
  (∀ {k : Nat} {p0 : GProgram} {r : GI3 × (List (List Int))}, impl_verify k p0 = some r → Con Tryz.prog 70 [.agg [.d (.row .bor 3 (Rw (GFunc.cells .bor) p0.funcs))]] [] (.tup [.agg [V.int r.1.a, V.int r.1.b, V.int r.1.c], .d (.row .own 1 (Rw (cL .own 1 (cI .i64)) r.2))]) []) ∧
  (∀ {k : Nat} {p0 : GProgram} {r : GI3}, spec_Verify k p0 = some r → Con Tryz.prog 68 [.agg [.d (.row .bor 3 (Rw (GFunc.cells .bor) p0.funcs))]] [] (.agg [V.int r.a, V.int r.b, V.int r.c]) []) := by
  refine ⟨?_, ?_, ?_, ?_⟩
  all_goals intros
  all_goals rename_i h
  all_goals first
    | (with_reducible refine isf 32 ?_
       refine csw Tryz.func32 Tryz.call32 (by simp [Tryz.ntmps32]) (h := ?_)
       refine mkf 32 fun hF => ?_
       rw [Tryz.ntmps32, Tryz.results32]
       unfold impl_ownState at h)
    | (with_reducible refine isf 31 ?_
       refine csw Tryz.func31 Tryz.call31 (by simp [Tryz.ntmps31]) (h := ?_)
       refine mkf 31 fun hF => ?_
       rw [Tryz.ntmps31, Tryz.results31]
       unfold impl_prog_stateRight at h)
    | (with_reducible refine isf 70 ?_
       refine csw Tryz.func70 Tryz.call70 (by simp [Tryz.ntmps70]) (h := ?_)
       refine mkf 70 fun hF => ?_
       rw [Tryz.ntmps70, Tryz.results70]
       unfold impl_verify at h)
    | (with_reducible refine isf 68 ?_
       refine csw Tryz.func68 Tryz.call68 (by simp [Tryz.ntmps68]) (h := ?_)
       refine mkf 68 fun hF => ?_
       rw [Tryz.ntmps68, Tryz.results68]
       unfold spec_Verify at h)
  all_goals (replace h := Yes.mk h; simp only [entryS, entryO, Nat.reduceAdd, List.length_nil, List.length_cons])
  repeat' (first
 | (with_reducible (first | refine sw_reg ?_ | refine sw_ret ?_ | refine sw_skip ?_ | refine sw_block ?_ | refine sw_exit ?_ | refine seqQ_normal ?_ | refine blockQ_normal ?_ | refine blockQ_ret ?_ | refine blockQ_this ?_ | refine blockQ_other (by decide) ?_ | refine regW_nil ?_ | refine sw_draw mixed ?_ | refine retQ_ret ?_ | refine retQ_normal ?_))
 | (with_reducible refine regD_nil ?_
    refine ⟨by kernel_rfl, ?_⟩)
 | (revert h; (first | ((with_reducible refine idx_elim ?_); intro m hm1 hm2 hm3 h; (try (simp only [Int.reduceToNat] at hm3)); (try (revert hm3; (with_reducible apply same_elim); (focus (with_reducible assumption)); rintro rfl)); (try (simp only [List.length_set, List.length_cons, List.length_nil, List.length_replicate, Nat.reduceAdd, Int.cast_ofNat_Int, Nat.zero_add, List.length_append] at hm2))) | (with_reducible refine sidx_elim ?_; intro m hm1 hm3 h) | (with_reducible refine gd_elim ?_; intro hg h; try (have hg2 := hg.2; have hg := hg.1; (try (simp only [Nat.reduceLeDiff] at hg2)); (try (revert hg2; (with_reducible refine toNat_elim hg ?_); intro hg2 hg4)); try (have hg3 := hg2.2; have hg2 := hg2.1; (try (simp only [Nat.reduceLeDiff] at hg3))))) | (with_reducible refine condt_elim ?_ ?_; (focus (with_reducible assumption)); intro h) | (with_reducible refine condf_elim ?_ ?_; (focus (with_reducible assumption)); intro h)))
 | ((with_reducible first | refine pnR ?_ | refine pnE ?_ | refine pmR ?_ | refine pmE ?_)
    obtain rfl := h.get
    have h := hK
    clear hK
    (try (simp only [Sum.elim_inl, Sum.elim_inr] at h)))
 | ((with_reducible refine fi 31 ?_ ?_); (focus (with_reducible assumption))
    first
    | (with_reducible refine here_loop (c := (.seq (.region 5 _ _) _)) ?_
       revert h
       with_reducible refine bind_elimY ?_
       intro o1 h hK
       refine lpA (β := (List GFrame) × (List (List Int)) × (List Int) × Int × Bool × Int × Int × Gprog × (List GFrame) × Int × Int) 10000000 (fun x => [(.s 0, some (.v (.d (.ptr .bor [.row .bor 3 (Rw (GFunc.cells .bor) x.2.2.2.2.2.2.2.2.1.program.funcs), .row .bor 1 (Rw (cL .bor 1 (cI .i64)) x.2.2.2.2.2.2.2.2.1.h)])))), (.s 3, some (.v (.mp 0 7 0 0))), (.s 29, some (.v (.d (.row .bor 4 (Rw (GFrame.cells .bor) x.2.2.2.2.2.2.2.2.2.1))))), (.s 30, some (.v (V.int x.2.2.2.2.2.2.2.2.2.2.1))), (.s 31, some (.v (V.int x.2.2.2.2.2.2.2.2.2.2.2))), (.r 0, some (.o 7 [[.d (.row .bor 4 (Rw (GFrame.cells .bor) x.2.1)), .d (.row .bor 1 (Rw (cL .bor 1 (cI .i64)) x.2.2.1)), .d (.row .bor 1 (Rw (cI .i64) x.2.2.2.1)), V.int x.2.2.2.2.1, V.bool x.2.2.2.2.2.1, V.int x.2.2.2.2.2.2.1, V.int x.2.2.2.2.2.2.2.1]]))]) (fun x => Yes (impl_prog_stateRight.l1 x.1 x.2.1 x.2.2.1 x.2.2.2.1 x.2.2.2.2.1 x.2.2.2.2.2.1 x.2.2.2.2.2.2.1 x.2.2.2.2.2.2.2.1 x.2.2.2.2.2.2.2.2.1 x.2.2.2.2.2.2.2.2.2.1 x.2.2.2.2.2.2.2.2.2.2.1 x.2.2.2.2.2.2.2.2.2.2.2) o1) (_, _, _, _, _, _, _, _, _, _, _, _) h ?_
       rintro ⟨_ | k, a1, a2, a3, a4, a5, a6, a7, a8, a9, a10, a11⟩ h
       · simp only [impl_prog_stateRight.l1] at h; exact h.none
       simp only [impl_prog_stateRight.l1] at h
   ))
 | ((with_reducible refine fi 70 ?_ ?_); (focus (with_reducible assumption))
    first
    | (with_reducible refine here_loop (c := (.seq (.region 10 _ _) _)) ?_
       revert h
       with_reducible refine bind_elimY ?_
       intro o5 h hK
       refine sw_gh ?_
       (try (apply gh_resRow 20000000; (focus (simp only [lkd, lkb, reduceCtorEq, Nat.reduceEqDiff]; try rfl)); (focus (first | (simp only [Rw_length, List.length_set]; omega) | (simp [Rw_length]; omega))); simp only [rxb, Nat.reduceAdd, Nat.reduceLeDiff, rxd, lkd, lkb, reduceCtorEq, Nat.reduceEqDiff, *, mmb, GI2_Dset, GFunc_Dset, GProgram_Dset, GFrame_Dset, GState_Dset, Gprog_Dset, Gworld_Dset, GI3_Dset, LcIi64_Dset]))
       refine gh_sw ?_
       refine lpA (β := (List GFunc) × GI3 × (List (List Int)) × Int × (List GFunc) × Int × Int × (List GI2) × Int × Int) 50000000 (fun x => [(.s 1, some (.v (.mp 0 1 0 0))), (.s 2, some (.v (.mp 64 3 0 0))), (.s 4, some (.v (.sl 20000000 1 0 x.2.2.2.1.length))), (.s 5, some (.v (V.int x.2.2.2.2.1))), (.s 24, some (.v (.d (.row .bor 3 (Rw (GFunc.cells .bor) x.2.2.2.2.2.1))))), (.s 25, some (.v (V.int x.2.2.2.2.2.2.1))), (.s 26, some (.v (V.int x.2.2.2.2.2.2.2.1))), (.s 53, some (.v (.d (.row .bor 2 (Rw GI2.cells x.2.2.2.2.2.2.2.2.1))))), (.s 54, some (.v (V.int x.2.2.2.2.2.2.2.2.2.1))), (.s 55, some (.v (V.int x.2.2.2.2.2.2.2.2.2.2))), (.r 0, some (.o 1 [[.d (.row .bor 3 (Rw (GFunc.cells .bor) x.2.1))]])), (.r 64, some (.o 3 [[V.int x.2.2.1.a, V.int x.2.2.1.b, V.int x.2.2.1.c]])), (.r 20000000, some (.o 1 (dd (Rw (cL .own 1 (cI .i64)) x.2.2.2.1))))]) (fun x => Yes (impl_verify.l5 x.1 x.2.1 x.2.2.1 x.2.2.2.1 x.2.2.2.2.1 x.2.2.2.2.2.1 x.2.2.2.2.2.2.1 x.2.2.2.2.2.2.2.1 x.2.2.2.2.2.2.2.2.1 x.2.2.2.2.2.2.2.2.2.1 x.2.2.2.2.2.2.2.2.2.2) o5) (_, _, _, _, _, _, _, _, _, _, _) h ?_
       rintro ⟨_ | k, a1, a2, a3, a4, a5, a6, a7, a8, a9, a10⟩ h
       · simp only [impl_verify.l5] at h; exact h.none
       simp only [impl_verify.l5] at h
   )
    | (with_reducible refine here_next (N0 := 50000000) ?_
       (try (apply gh_resRow 20000000; (focus (simp only [lkd, lkb, reduceCtorEq, Nat.reduceEqDiff]; try rfl)); (focus (first | (simp only [Rw_length, List.length_set]; omega) | (simp [Rw_length]; omega))); simp only [rxb, Nat.reduceAdd, Nat.reduceLeDiff, rxd, lkd, lkb, reduceCtorEq, Nat.reduceEqDiff, *, mmb, GI2_Dset, GFunc_Dset, GProgram_Dset, GFrame_Dset, GState_Dset, Gprog_Dset, Gworld_Dset, GI3_Dset, LcIi64_Dset]))
       refine nxA (_, _, _, _, _, _, _, _, _, _, _) h)
    | (with_reducible refine here_join (a := (.seq (.region 7 _ _) _)) (b := (.seq (.seq (.region 9 _ _) _) _)) ?_
       revert h
       with_reducible refine bind_elimY ?_
       intro o4 h hK
       unfold impl_verify.a4 at h
       refine sw_join (ι := (List GFunc) × GI3 × (List (List Int)) × Int × Int × (List GI2) × Int × (List GFunc) × Int × Int) 40000000 (fun x => [(.s 1, some (.v (.mp 0 1 0 0))), (.s 2, some (.v (.mp 64 3 0 0))), (.s 4, some (.v (.sl 20000000 1 0 x.2.2.1.length))), (.s 5, some (.v (V.int x.2.2.2.2.2.2.1))), (.s 6, some (.v (.mp 20000320 3 0 0))), (.s 24, some (.v (.d (.row .bor 3 (Rw (GFunc.cells .bor) x.2.2.2.2.2.2.2.1))))), (.s 25, some (.v (V.int x.2.2.2.2.2.2.2.2.1))), (.s 26, some (.v (V.int x.2.2.2.2.2.2.2.2.2))), (.r 0, some (.o 1 [[.d (.row .bor 3 (Rw (GFunc.cells .bor) x.1))]])), (.r 64, some (.o 3 [[V.int x.2.1.a, V.int x.2.1.b, V.int x.2.1.c]])), (.r 20000000, some (.o 1 (dd (Rw (cL .own 1 (cI .i64)) x.2.2.1)))), (.r 20000320, some (.o 3 [[V.int x.2.2.2.1, V.int x.2.2.2.2.1, .d (.row .bor 2 (Rw GI2.cells x.2.2.2.2.2.1))]]))]) (fun x => Yes (some (.inr x)) o4) ?_ ?_
       rotate_left
       rintro ⟨b1, b2, b3, b4, b5, b6, b7, b8, b9, b10⟩ h
       obtain rfl := h.get
       have h := hK
       clear hK
       (try (simp only [Sum.elim_inl, Sum.elim_inr] at h))
       refine sw_gh ?_
       refine gh_sw ?_)
    | (with_reducible refine here_meet (N0 := 40000000) ?_
       (try (apply gh_resRow 20000000; (focus (simp only [lkd, lkb, reduceCtorEq, Nat.reduceEqDiff]; try rfl)); (focus (first | (simp only [Rw_length, List.length_set]; omega) | (simp [Rw_length]; omega))); simp only [rxb, Nat.reduceAdd, Nat.reduceLeDiff, rxd, lkd, lkb, reduceCtorEq, Nat.reduceEqDiff, *, mmb, GI2_Dset, GFunc_Dset, GProgram_Dset, GFrame_Dset, GState_Dset, Gprog_Dset, Gworld_Dset, GI3_Dset, LcIi64_Dset]))
       refine mtA (_, _, _, _, _, _, _, _, _, _) h)
    | (with_reducible refine here_join (a := (.block 1 _)) (b := (.region 19 _ _)) ?_
       revert h
       with_reducible refine bind_elimY ?_
       intro o3 h hK
       unfold impl_verify.a3 at h
       refine sw_join (ι := (List GFunc) × GI3 × (List (List Int)) × (List GFunc) × Int × Int) 30000000 (fun x => [(.s 1, some (.v (.mp 0 1 0 0))), (.s 2, some (.v (.mp 64 3 0 0))), (.s 4, some (.v (.d (.row .own 1 (Rw (cL .own 1 (cI .i64)) x.2.2.1))))), (.s 24, some (.v (.d (.row .bor 3 (Rw (GFunc.cells .bor) x.2.2.2.1))))), (.s 25, some (.v (V.int x.2.2.2.2.1))), (.s 26, some (.v (V.int x.2.2.2.2.2))), (.r 0, some (.o 1 [[.d (.row .bor 3 (Rw (GFunc.cells .bor) x.1))]])), (.r 64, some (.o 3 [[V.int x.2.1.a, V.int x.2.1.b, V.int x.2.1.c]]))]) (fun x => Yes (some (.inr x)) o3) ?_ ?_
       rotate_left
       rintro ⟨b1, b2, b3, b4, b5, b6⟩ h
       obtain rfl := h.get
       have h := hK
       clear hK
       (try (simp only [Sum.elim_inl, Sum.elim_inr] at h))
       refine sw_gh ?_
       refine gh_nameSlot 4 ?_
       simp only [rxb, Nat.reduceAdd, Nat.reduceLeDiff, rxd, lkd, lkb, reduceCtorEq, Nat.reduceEqDiff, Nat.reduceAdd]
       refine gh_sw ?_)
    | (with_reducible refine here_meet (N0 := 30000000) ?_
       refine gh_resSlot 4 ?_
       simp only [rxb, Nat.reduceAdd, Nat.reduceLeDiff, rxd, lkd, lkb, reduceCtorEq, Nat.reduceEqDiff, *]
       refine mtA (_, _, _, _, _, _) h)
    | (with_reducible refine here_loop (c := (.seq (.region 5 _ _) _)) ?_
       revert h
       with_reducible refine bind_elimY ?_
       intro o2 h hK
       refine sw_gh ?_
       (try (refine gh_nilRow 4 .own 1 ?_ ?_; (focus (simp only [lkd, lkb, reduceCtorEq, Nat.reduceEqDiff]; done))))
       refine gh_resSlot 4 ?_
       simp only [rxb, Nat.reduceAdd, Nat.reduceLeDiff, rxd, lkd, lkb, reduceCtorEq, Nat.reduceEqDiff, *]
       refine gh_sw ?_
       refine lpA (β := (List GFunc) × GI3 × (List (List Int)) × (List GFunc) × Int × Int) 20000000 (fun x => [(.s 1, some (.v (.mp 0 1 0 0))), (.s 2, some (.v (.mp 64 3 0 0))), (.s 4, some (.v (.d (.row .own 1 (Rw (cL .own 1 (cI .i64)) x.2.2.2.1))))), (.s 24, some (.v (.d (.row .bor 3 (Rw (GFunc.cells .bor) x.2.2.2.2.1))))), (.s 25, some (.v (V.int x.2.2.2.2.2.1))), (.s 26, some (.v (V.int x.2.2.2.2.2.2))), (.r 0, some (.o 1 [[.d (.row .bor 3 (Rw (GFunc.cells .bor) x.2.1))]])), (.r 64, some (.o 3 [[V.int x.2.2.1.a, V.int x.2.2.1.b, V.int x.2.2.1.c]]))]) (fun x => Yes (impl_verify.l2 x.1 x.2.1 x.2.2.1 x.2.2.2.1 x.2.2.2.2.1 x.2.2.2.2.2.1 x.2.2.2.2.2.2) o2) (_, _, _, _, _, _, _) h ?_
       rintro ⟨_ | k, a1, a2, a3, a4, a5, a6⟩ h
       · simp only [impl_verify.l2] at h; exact h.none
       simp only [impl_verify.l2] at h
       refine sw_gh ?_
       refine gh_nameSlot 4 ?_
       simp only [rxb, Nat.reduceAdd, Nat.reduceLeDiff, rxd, lkd, lkb, reduceCtorEq, Nat.reduceEqDiff, Nat.reduceAdd]
       refine gh_sw ?_
   )
    | (with_reducible refine here_next (N0 := 20000000) ?_
       (try (refine gh_nilRow 4 .own 1 ?_ ?_; (focus (simp only [lkd, lkb, reduceCtorEq, Nat.reduceEqDiff]; done))))
       refine gh_resSlot 4 ?_
       simp only [rxb, Nat.reduceAdd, Nat.reduceLeDiff, rxd, lkd, lkb, reduceCtorEq, Nat.reduceEqDiff, *]
       refine nxA (_, _, _, _, _, _, _) h)
    | (with_reducible refine here_join (a := (.seq (.region 1 _ _) _)) (b := (.seq (.region 3 _ _) _)) ?_
       revert h
       with_reducible refine bind_elimY ?_
       intro o1 h hK
       unfold impl_verify.a1 at h
       refine sw_join (ι := (List GFunc) × GI3) 10000000 (fun x => [(.s 1, some (.v (.mp 0 1 0 0))), (.s 2, some (.v (.mp 64 3 0 0))), (.r 0, some (.o 1 [[.d (.row .bor 3 (Rw (GFunc.cells .bor) x.1))]])), (.r 64, some (.o 3 [[V.int x.2.a, V.int x.2.b, V.int x.2.c]]))]) (fun x => Yes (some (.inr x)) o1) ?_ ?_
       rotate_left
       rintro ⟨b1, b2⟩ h
       obtain rfl := h.get
       have h := hK
       clear hK
       (try (simp only [Sum.elim_inl, Sum.elim_inr] at h))
       refine sw_gh ?_
       refine gh_sw ?_))
 | ((with_reducible refine fi 68 ?_ ?_); (focus (with_reducible assumption))
    first
    | (with_reducible refine here_loop (c := (.seq (.seq (.region 4 _ _) _) _)) ?_
       revert h
       with_reducible refine bind_elimY ?_
       intro o2 h hK
       refine lpA (β := (List GFunc) × GI3 × Int) 20000000 (fun x => [(.s 1, some (.v (.mp 0 1 0 0))), (.s 2, some (.v (.mp 64 3 0 0))), (.s 3, some (.v (V.int x.2.2.2))), (.r 0, some (.o 1 [[.d (.row .bor 3 (Rw (GFunc.cells .bor) x.2.1))]])), (.r 64, some (.o 3 [[V.int x.2.2.1.a, V.int x.2.2.1.b, V.int x.2.2.1.c]]))]) (fun x => Yes (spec_Verify.l2 x.1 x.2.1 x.2.2.1 x.2.2.2) o2) (_, _, _, _) h ?_
       rintro ⟨_ | k, a1, a2, a3⟩ h
       · simp only [spec_Verify.l2] at h; exact h.none
       simp only [spec_Verify.l2] at h
   )
    | (with_reducible refine here_join (a := (.seq (.region 1 _ _) _)) (b := (.seq (.seq (.region 3 _ _) _) _)) ?_
       revert h
       with_reducible refine bind_elimY ?_
       intro o1 h hK
       unfold spec_Verify.a1 at h
       refine sw_join (ι := (List GFunc) × GI3) 10000000 (fun x => [(.s 1, some (.v (.mp 0 1 0 0))), (.s 2, some (.v (.mp 64 3 0 0))), (.r 0, some (.o 1 [[.d (.row .bor 3 (Rw (GFunc.cells .bor) x.1))]])), (.r 64, some (.o 3 [[V.int x.2.a, V.int x.2.b, V.int x.2.c]]))]) (fun x => Yes (some (.inr x)) o1) ?_ ?_
       rotate_left
       rintro ⟨b1, b2⟩ h
       obtain rfl := h.get
       have h := hK
       clear hK
       (try (simp only [Sum.elim_inl, Sum.elim_inr] at h))
       refine sw_gh ?_
       refine gh_sw ?_))
 | (with_reducible refine here_next ?_
    first | refine nxA (_, _, _, _) h | refine nxA (_, _, _, _, _, _, _, _, _, _, _, _) h)
 | (with_reducible refine here_meet ?_
    first | refine mtA (_, _) h)
 | with_reducible refine sw_seq ?_
 | with_reducible refine seqQ_ret ?_
 | with_reducible refine seqQ_exit ?_
 | ((with_reducible refine fi 70 ?_ ?_); (focus (with_reducible assumption))
    first
    | (with_reducible refine gh_nilRow 3 .own 1 ?_ ?_
       · simp only [lkd, lkb, reduceCtorEq, Nat.reduceEqDiff]; done
       skip))
 | ((with_reducible refine wp_ite ?_ ?_)
    all_goals (intro hc; (try (simp only [Bool.not_eq_true, Bool.not_eq_false] at hc)); simp only [hc]))
 | (with_reducible refine rskip (hs := ?_) (h2 := ?_)
    · simp only [lkd, lkb, reduceCtorEq, Nat.reduceEqDiff]; done)
 | (with_reducible refine ryes (hs := ?_) (h := ?_)
    · simp only [lkd, lkb, reduceCtorEq, Nat.reduceEqDiff]; done)
 | (with_reducible refine rno (hs := ?_) (h := ?_)
    · simp only [lkd, lkb, reduceCtorEq, Nat.reduceEqDiff, Bool.not_true, Bool.not_false]; done)
 | (with_reducible apply regW_guardN
    · simp only [dstOk, Nat.reduceLT]
    · rfl
    · simp only [lkd, lkb, reduceCtorEq, Nat.reduceEqDiff]; rfl
    all_goals (intro hc; (try (simp only [Bool.not_true, Bool.not_false] at hc))))
 | (with_reducible apply sw_cond
    · simp only [lkd, lkb, reduceCtorEq, Nat.reduceEqDiff]; rfl
    all_goals (intro hc; try (cases hc; done)))
 | ((first
     | ((with_reducible refine gh_ret ?_)
        revert h
        with_reducible refine some_elim ?_
        rintro rfl)
     | (with_reducible refine here_call ?_
        revert h
        with_reducible refine bind_elim ?_
        intro t ht h
        (first
          | ((with_reducible refine here_call (f := 33) ?_); refine call_give (c_impl_prog_runOf ht) ?_ rfl ?_
             · (simp only [hyb, hyd, GI2_lend, GFunc_lend, GProgram_lend, GFrame_lend, GState_lend, Gprog_lend, Gworld_lend, GI3_lend, LcIi64_lend]; first | exact .same | (refine .ptr ?_; repeat' (first | exact All2.nil | refine All2.cons ?_ ?_ | exact ConvD.same | exact ConvD.nil))))
          | ((first
              | ((with_reducible refine here_call (f := 36) ?_); refine call_dataE (c_impl_run_state ht) ?_ rfl ?_)
              | ((with_reducible refine here_call (f := 71) ?_); refine call_dataE (c_impl_world_right ht) ?_ rfl ?_)
              | ((with_reducible refine here_call (f := 72) ?_); refine call_dataE (c_impl_prog_frameRight ht) ?_ rfl ?_)
              | ((with_reducible refine here_call (f := 110) ?_); refine call_dataE (c_impl_in ht) ?_ rfl ?_)
              | ((with_reducible refine here_call (f := 111) ?_); refine call_dataE (c_impl_InsRight ht) ?_ rfl ?_)
              | ((with_reducible refine here_call (f := 112) ?_); refine call_dataE (c_impl_heightsOf ht) ?_ rfl ?_)
              | ((with_reducible refine here_call (f := 108) ?_); refine call_dataE (c_spec_l04Func ht) ?_ rfl ?_))
             · first | rfl | (simp; done))))
     | ((with_reducible refine fi 32 ?_ ?_); (focus (with_reducible assumption))
        first
        | ((first | with_reducible apply regD_opLK [(4, some 99999)] (dst := some 6) (op := .call { callee := .value (.func 33), args := _, argTypes := _ }) | with_reducible apply regW_opLK [(4, some 99999)] (dst := some 6) (op := .call { callee := .value (.func 33), args := _, argTypes := _ }))
           · simp only [dstOk, Nat.reduceLT]
           · simp only [Nat.reduceAdd]; rfl
           intro k hk
           with_reducible apply pre_slot 4
           simp only [rxb, Nat.reduceAdd, Nat.reduceLeDiff, rxd, lkd, lkb, reduceCtorEq, Nat.reduceEqDiff, GI2_Dset, GFunc_Dset, GProgram_Dset, GFrame_Dset, GState_Dset, Gprog_Dset, Gworld_Dset, GI3_Dset, LcIi64_Dset, *]
           with_reducible apply pre_nil)
        | ((first | with_reducible apply regD_opLK [(6, some 99999)] (dst := some 7) (op := .call { callee := .value (.func 36), args := _, argTypes := _ }) | with_reducible apply regW_opLK [(6, some 99999)] (dst := some 7) (op := .call { callee := .value (.func 36), args := _, argTypes := _ }))
           · simp only [dstOk, Nat.reduceLT]
           · simp only [Nat.reduceAdd]; rfl
           intro k hk
           with_reducible apply pre_slot 6
           simp only [rxb, Nat.reduceAdd, Nat.reduceLeDiff, rxd, lkd, lkb, reduceCtorEq, Nat.reduceEqDiff, GI2_Dset, GFunc_Dset, GProgram_Dset, GFrame_Dset, GState_Dset, Gprog_Dset, Gworld_Dset, GI3_Dset, LcIi64_Dset, *]
           with_reducible apply pre_nil))
     | (with_reducible (first | refine ropD (h := ?_) | refine ropW (h := ?_))
        intro k hk)
     | skip)
    simp only [bn, lkb, evb, evd, Value.oneCell', setSeg, reduceCtorEq, Nat.reduceAdd, Nat.reduceMul, Nat.reduceSub, Nat.reduceLT, Nat.reduceLeDiff, Nat.reduceEqDiff, Int.reduceNeg, Int.reduceToNat, ty2, ty3, ty4, ty5, ty6, ty23, ty25, ty26, ty27, ty28, ty30, ty56, ty58, ty63, ty90, ty92, ty94, ty98, ty102, ty104, ty109, GFrame.cells, GFunc.cells, GI2.cells, GI3.cells, GProgram.cells, GState.cells, Gprog.cells, Gworld.cells, cI, cB, cS, cL, GI2_e, GFunc_e, GProgram_e, GFrame_e, GState_e, Gprog_e, Gworld_e, GI3_e, LcIi64_e, buildP, buildSliceP, putParts, structPlaces, chunks, List.replicate, List.flatten_nil, List.flatten_cons, Option.bind_some, bb, LcIi64_b, nilEqP, ne_eq, not_false_eq_true, not_true_eq_false, *]
    try (refine hk.use _ _ _ _ ?_; clear hk k))
 | fail)
  all_goals (try rfl)
  all_goals (try (simp; done))
  all_goals (try (simp_all; done))
def c_impl_ownState := @And.left _ _ gr23
def c_impl_prog_stateRight := @And.left _ _ (@And.right _ _ gr23)
def c_impl_verify := @And.left _ _ (@And.right _ _ (@And.right _ _ gr23))
def c_spec_Verify := (@And.right _ _ (@And.right _ _ (@And.right _ _ gr23)))
end Go.Proofs.YtdlaplgofgklnaaGreat