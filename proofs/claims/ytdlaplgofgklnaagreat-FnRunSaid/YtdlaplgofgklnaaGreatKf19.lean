/- WHAT IS PROVED: an abstract walker over the model, what some functions of the program answer, and laws of these answers. Conditions: none. -/
import Derived.Test.YtdlaplgofgklnaaGreatKf18
namespace Go.Proofs.YtdlaplgofgklnaaGreat
open Go.Proofs Go.Proofs.YtdlaplgofgklnaaGreat.L
set_option maxHeartbeats 8000000
set_option linter.unusedSimpArgs false
set_option linter.unusedVariables false
set_option maxRecDepth 100000
set_option linter.defProp false
def impl_Run.a1 (k : Nat) (a1 : (List GFrame)) (a2 : (List (List Int))) (a3 : (List Int)) (a4 : Int) (a5 : Bool) (a6 : Int) (a7 : Int) (a8 : GState) (a9 : Gprog) (a10 : Bool) : Option ((GState) ⊕ ((List GFrame) × (List (List Int)) × (List Int) × Int × Bool × Int × Int × GState × Gprog)) :=
  cond ((!a10)) ((impl_ownState k ((⟨a1, a2, a3, a4, a5, a6, a7⟩ : GState))).bind fun t2 => some (.inl (t2))) ((impl_prog_stateRight k a9 ((⟨a1, a2, a3, a4, a5, a6, a7⟩ : GState))).bind fun t3 => cond ((!t3)) ((impl_ownState k ((⟨a1, a2, a3, a4, a5, a6, a7⟩ : GState))).bind fun t4 => some (.inl (t4))) (some (.inr (a1, a2, a3, a4, a5, a6, a7, a8, a9))))
def impl_Run.l2 : Nat → GState → Grun → Option (GState × Grun)
  | 0, _, _ => none
  | k + 1, a1, a2 => (impl_run_alive a2).bind fun t6 => cond t6 ((impl_run_step k a2).bind fun t7 => impl_Run.l2 k a1 t7) (some (a1, a2))
def impl_Run (k : Nat) (p0 : GProgram) (p1 : GState) : Option (GState) :=
  (impl_known k p0).bind fun t1 => (impl_Run.a1 k p1.frames p1.heap p1.out p1.fuel0 p1.done p1.value p1.trap ((⟨[], [], [], 0, false, 0, 0⟩ : GState)) t1.1 t1.2).bind fun o1 => Sum.elim (fun o1l => some o1l) (fun o1r => (impl_prog_runOf k o1r.2.2.2.2.2.2.2.2 ((⟨o1r.1, o1r.2.1, o1r.2.2.1, o1r.2.2.2.1, o1r.2.2.2.2.1, o1r.2.2.2.2.2.1, o1r.2.2.2.2.2.2.1⟩ : GState))).bind fun t5 => (impl_Run.l2 k o1r.2.2.2.2.2.2.2.1 t5).bind fun o2 => (impl_run_state o2.2).bind fun t8 => some t8) o1
def impl_StateRight (k : Nat) (p0 : GProgram) (p1 : GState) : Option (Bool) :=
  (impl_known k p0).bind fun t1 => cond t1.2 ((impl_prog_stateRight k t1.1 p1).bind fun t2 => some t2) (some false)
def impl_Step.a1 (k : Nat) (a1 : (List GFrame)) (a2 : (List (List Int))) (a3 : (List Int)) (a4 : Int) (a5 : Bool) (a6 : Int) (a7 : Int) (a8 : GState) (a9 : Gprog) (a10 : Bool) : Option ((GState) ⊕ ((List GFrame) × (List (List Int)) × (List Int) × Int × Bool × Int × Int × GState × Gprog)) :=
  cond ((!a10)) ((impl_ownState k ((⟨a1, a2, a3, a4, a5, a6, a7⟩ : GState))).bind fun t2 => some (.inl (t2))) ((impl_prog_stateRight k a9 ((⟨a1, a2, a3, a4, a5, a6, a7⟩ : GState))).bind fun t3 => cond ((!t3)) ((impl_ownState k ((⟨a1, a2, a3, a4, a5, a6, a7⟩ : GState))).bind fun t4 => some (.inl (t4))) (some (.inr (a1, a2, a3, a4, a5, a6, a7, a8, a9))))
def impl_Step (k : Nat) (p0 : GProgram) (p1 : GState) : Option (GState) :=
  (impl_known k p0).bind fun t1 => (impl_Step.a1 k p1.frames p1.heap p1.out p1.fuel0 p1.done p1.value p1.trap ((⟨[], [], [], 0, false, 0, 0⟩ : GState)) t1.1 t1.2).bind fun o1 => Sum.elim (fun o1l => some o1l) (fun o1r => (impl_prog_runOf k o1r.2.2.2.2.2.2.2.2 ((⟨o1r.1, o1r.2.1, o1r.2.2.1, o1r.2.2.2.1, o1r.2.2.2.2.1, o1r.2.2.2.2.2.1, o1r.2.2.2.2.2.2.1⟩ : GState))).bind fun t5 => (impl_run_alive t5).bind fun t6 => cond t6 ((impl_run_step k t5).bind fun t7 => (impl_run_state t7).bind fun t8 => some t8) ((impl_run_state t5).bind fun t9 => some t9)) o1
def spec_StateRight.a1 (k : Nat) (a1 : (List GFunc)) (a2 : (List GFrame)) (a3 : (List (List Int))) (a4 : (List Int)) (a5 : Int) (a6 : Bool) (a7 : Int) (a8 : Int) : Option ((Bool) ⊕ ((List GFunc) × (List GFrame) × (List (List Int)) × (List Int) × Int × Bool × Int × Int)) :=
  (spec_l04Right k ((⟨a1⟩ : GProgram))).bind fun t1 => cond ((!t1)) (some (.inl (false))) ((spec_l06Rest k a5 a3 a4).bind fun t2 => cond ((!t2)) (some (.inl (false))) (some (.inr (a1, a2, a3, a4, a5, a6, a7, a8))))
def spec_StateRight.a2 (k : Nat) (a1 : (List GFunc)) (a2 : (List GFrame)) (a3 : (List (List Int))) (a4 : (List Int)) (a5 : Int) (a6 : Bool) (a7 : Int) (a8 : Int) : Option ((Bool) ⊕ ((List GFunc) × (List GFrame) × (List (List Int)) × (List Int) × Int × Bool × Int × Int)) :=
  cond a6 (some (.inl (false))) (cond ((a7 != 0)) (some (.inl (false))) (cond ((a8 != 0)) (some (.inl (false))) (cond ((decide (((a2.length : Int)) > 10))) (some (.inl (false))) (some (.inr (a1, a2, a3, a4, a5, a6, a7, a8))))))
def spec_StateRight.a4 (k : Nat) (a1 : (List GFunc)) (a2 : (List GFrame)) (a3 : (List (List Int))) (a4 : (List Int)) (a5 : Int) (a6 : Bool) (a7 : Int) (a8 : Int) (a9 : Int) (a10 : Int) (a11 : (List Int)) (a12 : (List Int)) (a13 : Int) (a14 : Int) : Option ((List GFunc) × (List GFrame) × (List (List Int)) × (List Int) × Int × Bool × Int × Int × Int × Int × (List Int) × (List Int) × Int × Int) :=
  cond ((decide (((IntKind.i64.wrap (a13 + 1))) < ((a2.length : Int))))) ((idx a2 ((IntKind.i64.wrap (a13 + 1)))).bind fun m5 => some (a1, a2, a3, a4, a5, a6, a7, a8, a9, a10, a11, a12, a13, m5.func0)) (some (a1, a2, a3, a4, a5, a6, a7, a8, a9, a10, a11, a12, a13, a14))
def spec_StateRight.l3 : Nat → (List GFunc) → (List GFrame) → (List (List Int)) → (List Int) → Int → Bool → Int → Int → Int → Option ((Bool) ⊕ (Unit))
  | 0, _, _, _, _, _, _, _, _, _ => none
  | k + 1, a1, a2, a3, a4, a5, a6, a7, a8, a9 => cond ((decide (a9 < ((a2.length : Int))))) ((idx a2 a9).bind fun m4 => (spec_StateRight.a4 k a1 a2 a3 a4 a5 a6 a7 a8 m4.func0 m4.pc m4.locals m4.stack a9 ((-1))).bind fun o4 => (spec_l06Stands k ((⟨o4.1⟩ : GProgram)) o4.2.2.2.2.2.2.2.2.1 o4.2.2.2.2.2.2.2.2.2.1 ((o4.2.2.2.2.2.2.2.2.2.2.1.length : Int)) ((o4.2.2.2.2.2.2.2.2.2.2.2.1.length : Int)) o4.2.2.2.2.2.2.2.2.2.2.2.2.2).bind fun t6 => cond ((!t6)) (some (.inl (false))) (spec_StateRight.l3 k o4.1 o4.2.1 o4.2.2.1 o4.2.2.2.1 o4.2.2.2.2.1 o4.2.2.2.2.2.1 o4.2.2.2.2.2.2.1 o4.2.2.2.2.2.2.2.1 ((IntKind.i64.wrap (o4.2.2.2.2.2.2.2.2.2.2.2.2.1 + 1))))) (some (.inr ()))
def spec_StateRight (k : Nat) (p0 : GProgram) (p1 : GState) : Option (Bool) :=
  (spec_StateRight.a1 k p0.funcs p1.frames p1.heap p1.out p1.fuel0 p1.done p1.value p1.trap).bind fun o1 => Sum.elim (fun o1l => some o1l) (fun o1r => cond ((((o1r.2.1.length : Int)) == 0)) ((spec_l06Ends o1r.2.2.2.2.2.1 o1r.2.2.2.2.2.2.1 o1r.2.2.2.2.2.2.2).bind fun t3 => some t3) ((spec_StateRight.a2 k o1r.1 o1r.2.1 o1r.2.2.1 o1r.2.2.2.1 o1r.2.2.2.2.1 o1r.2.2.2.2.2.1 o1r.2.2.2.2.2.2.1 o1r.2.2.2.2.2.2.2).bind fun o2 => Sum.elim (fun o2l => some o2l) (fun o2r => (spec_StateRight.l3 k o2r.1 o2r.2.1 o2r.2.2.1 o2r.2.2.2.1 o2r.2.2.2.2.1 o2r.2.2.2.2.2.1 o2r.2.2.2.2.2.2.1 o2r.2.2.2.2.2.2.2 0).bind fun o3 => Sum.elim (fun o3l => some o3l) (fun o3r => some true) o3) o2)) o1
def spec_l04Is (k : Nat) (p0 : GProgram) (p1 : Int) : Option (Bool) :=
  (spec_l04Right k p0).bind fun t1 => cond t1 (cond ((decide (p1 ≥ 0))) (some ((decide (p1 < ((p0.funcs.length : Int)))))) (some false)) (some false)
theorem gr26 : (∀ {k : Nat} {p0 : GProgram} {p1 : GState} {r : GState}, impl_Run k p0 p1 = some r → Con Tryz.prog 9 [.agg [.d (.row .bor 3 (Rw (GFunc.cells .bor) p0.funcs))], .agg [.d (.row .bor 4 (Rw (GFrame.cells .bor) p1.frames)), .d (.row .bor 1 (Rw (cL .bor 1 (cI .i64)) p1.heap)), .d (.row .bor 1 (Rw (cI .i64) p1.out)), V.int p1.fuel0, V.bool p1.done, V.int p1.value, V.int p1.trap]] [] (.agg [.d (.row .own 4 (Rw (GFrame.cells .own) r.frames)), .d (.row .own 1 (Rw (cL .own 1 (cI .i64)) r.heap)), .d (.row .own 1 (Rw (cI .i64) r.out)), V.int r.fuel0, V.bool r.done, V.int r.value, V.int r.trap]) []) ∧
  (∀ {k : Nat} {p0 : GProgram} {p1 : GState} {r : Bool}, impl_StateRight k p0 p1 = some r → Con Tryz.prog 8 [.agg [.d (.row .bor 3 (Rw (GFunc.cells .bor) p0.funcs))], .agg [.d (.row .bor 4 (Rw (GFrame.cells .bor) p1.frames)), .d (.row .bor 1 (Rw (cL .bor 1 (cI .i64)) p1.heap)), .d (.row .bor 1 (Rw (cI .i64) p1.out)), V.int p1.fuel0, V.bool p1.done, V.int p1.value, V.int p1.trap]] [] (V.bool r) []) ∧
  (∀ {k : Nat} {p0 : GProgram} {p1 : GState} {r : GState}, impl_Step k p0 p1 = some r → Con Tryz.prog 12 [.agg [.d (.row .bor 3 (Rw (GFunc.cells .bor) p0.funcs))], .agg [.d (.row .bor 4 (Rw (GFrame.cells .bor) p1.frames)), .d (.row .bor 1 (Rw (cL .bor 1 (cI .i64)) p1.heap)), .d (.row .bor 1 (Rw (cI .i64) p1.out)), V.int p1.fuel0, V.bool p1.done, V.int p1.value, V.int p1.trap]] [] (.agg [.d (.row .own 4 (Rw (GFrame.cells .own) r.frames)), .d (.row .own 1 (Rw (cL .own 1 (cI .i64)) r.heap)), .d (.row .own 1 (Rw (cI .i64) r.out)), V.int r.fuel0, V.bool r.done, V.int r.value, V.int r.trap]) []) ∧
  (∀ {k : Nat} {p0 : GProgram} {p1 : GState} {r : Bool}, spec_StateRight k p0 p1 = some r → Con Tryz.prog 7 [.agg [.d (.row .bor 3 (Rw (GFunc.cells .bor) p0.funcs))], .agg [.d (.row .bor 4 (Rw (GFrame.cells .bor) p1.frames)), .d (.row .bor 1 (Rw (cL .bor 1 (cI .i64)) p1.heap)), .d (.row .bor 1 (Rw (cI .i64) p1.out)), V.int p1.fuel0, V.bool p1.done, V.int p1.value, V.int p1.trap]] [] (V.bool r) []) ∧
  (∀ {k : Nat} {p0 : GProgram} {p1 : Int} {r : Bool}, spec_l04Is k p0 p1 = some r → Con Tryz.prog 147 [.agg [.d (.row .bor 3 (Rw (GFunc.cells .bor) p0.funcs))], V.int p1] [] (V.bool r) []) := by
  refine ⟨?_, ?_, ?_, ?_, ?_⟩
  all_goals intros
  all_goals rename_i h
  all_goals first
    | (with_reducible refine isf 9 ?_
       refine csw Tryz.func9 Tryz.call9 (by simp [Tryz.ntmps9]) (h := ?_)
       refine mkf 9 fun hF => ?_
       rw [Tryz.ntmps9, Tryz.results9]
       unfold impl_Run at h)
    | (with_reducible refine isf 8 ?_
       refine csw Tryz.func8 Tryz.call8 (by simp [Tryz.ntmps8]) (h := ?_)
       refine mkf 8 fun hF => ?_
       rw [Tryz.ntmps8, Tryz.results8]
       unfold impl_StateRight at h)
    | (with_reducible refine isf 12 ?_
       refine csw Tryz.func12 Tryz.call12 (by simp [Tryz.ntmps12]) (h := ?_)
       refine mkf 12 fun hF => ?_
       rw [Tryz.ntmps12, Tryz.results12]
       unfold impl_Step at h)
    | (with_reducible refine isf 7 ?_
       refine csw Tryz.func7 Tryz.call7 (by simp [Tryz.ntmps7]) (h := ?_)
       refine mkf 7 fun hF => ?_
       rw [Tryz.ntmps7, Tryz.results7]
       unfold spec_StateRight at h)
    | (with_reducible refine isf 147 ?_
       refine csw Tryz.func147 Tryz.call147 (by simp [Tryz.ntmps147]) (h := ?_)
       refine mkf 147 fun hF => ?_
       rw [Tryz.ntmps147, Tryz.results147]
       unfold spec_l04Is at h)
  all_goals (replace h := Yes.mk h; simp only [entryS, entryO, Nat.reduceAdd, List.length_nil, List.length_cons])
  repeat' (first
 | (with_reducible (first | refine sw_reg ?_ | refine sw_ret ?_ | refine sw_skip ?_ | refine sw_block ?_ | refine sw_exit ?_ | refine seqQ_normal ?_ | refine blockQ_normal ?_ | refine blockQ_ret ?_ | refine blockQ_this ?_ | refine blockQ_other (by decide) ?_ | refine regW_nil ?_ | refine sw_draw mixed ?_ | refine retQ_ret ?_ | refine retQ_normal ?_))
 | (with_reducible refine regD_nil ?_
    refine ⟨by kernel_rfl, ?_⟩)
 | (revert h; (first | ((with_reducible refine idx_elim ?_); intro m hm1 hm2 hm3 h; (try (simp only [Int.reduceToNat] at hm3)); (try (revert hm3; (with_reducible apply same_elim); (focus (with_reducible assumption)); rintro rfl)); (try (simp only [List.length_set, List.length_cons, List.length_nil, List.length_replicate, Nat.reduceAdd, Int.cast_ofNat_Int, Nat.zero_add, List.length_append] at hm2))) | (with_reducible refine sidx_elim ?_; intro m hm1 hm3 h) | (with_reducible refine gd_elim ?_; intro hg h; try (have hg2 := hg.2; have hg := hg.1; (try (simp only [Nat.reduceLeDiff] at hg2)); (try (revert hg2; (with_reducible refine toNat_elim hg ?_); intro hg2 hg4)); try (have hg3 := hg2.2; have hg2 := hg2.1; (try (simp only [Nat.reduceLeDiff] at hg3))))) | (with_reducible refine condt_elim ?_ ?_; (focus (with_reducible assumption)); intro h) | (with_reducible refine condf_elim ?_ ?_; (focus (with_reducible assumption)); intro h)))
 | ((with_reducible first | refine pnR ?_ | refine pnE ?_ | refine pmR ?_ | refine pmE ?_)
    obtain rfl := h.get
    have h := hK
    clear hK
    (try (simp only [Sum.elim_inl, Sum.elim_inr] at h)))
 | ((with_reducible refine fi 9 ?_ ?_); (focus (with_reducible assumption))
    first
    | (with_reducible refine here_loop (c := (.seq (.seq (.region 5 _ _) _) _)) ?_
       revert h
       with_reducible refine bind_elimY ?_
       intro o2 h hK
       refine lpA (β := GState × Grun) 20000000 (fun x => [(.s 4, some (.v (.mp 128 7 0 0))), (.s 7, some (.v (.mp 10000128 8 0 0))), (.r 128, some (.o 7 [[.d (.row .own 4 (Rw (GFrame.cells .own) x.2.1.frames)), .d (.row .own 1 (Rw (cL .own 1 (cI .i64)) x.2.1.heap)), .d (.row .own 1 (Rw (cI .i64) x.2.1.out)), V.int x.2.1.fuel0, V.bool x.2.1.done, V.int x.2.1.value, V.int x.2.1.trap]])), (.r 10000128, some (.o 8 [[.d (.ptr .bor [.row .bor 3 (Rw (GFunc.cells .bor) x.2.2.k.program.funcs), .row .bor 1 (Rw (cL .bor 1 (cI .i64)) x.2.2.k.h)]), .d (.row .own 4 (Rw (GFrame.cells .own) x.2.2.frames)), .d (.row .own 1 (Rw (cL .own 1 (cI .i64)) x.2.2.world.heap)), .d (.row .own 1 (Rw (cI .i64) x.2.2.world.out)), V.int x.2.2.world.fuel0, V.bool x.2.2.world.done, V.int x.2.2.world.value, V.int x.2.2.world.trap]]))]) (fun x => Yes (impl_Run.l2 x.1 x.2.1 x.2.2) o2) (_, _, _) h ?_
       rintro ⟨_ | k, a1, a2⟩ h
       · simp only [impl_Run.l2] at h; exact h.none
       simp only [impl_Run.l2] at h
   )
    | (with_reducible refine here_join (a := (.seq (.region 2 _ _) _)) (b := (.seq (.region 4 _ _) _)) ?_
       revert h
       with_reducible refine bind_elimY ?_
       intro o1 h hK
       unfold impl_Run.a1 at h
       refine sw_join (ι := (List GFrame) × (List (List Int)) × (List Int) × Int × Bool × Int × Int × GState × Gprog) 10000000 (fun x => [(.s 3, some (.v (.mp 64 7 0 0))), (.s 4, some (.v (.mp 128 7 0 0))), (.s 5, some (.v (.mp 256 2 0 0))), (.r 64, some (.o 7 [[.d (.row .bor 4 (Rw (GFrame.cells .bor) x.1)), .d (.row .bor 1 (Rw (cL .bor 1 (cI .i64)) x.2.1)), .d (.row .bor 1 (Rw (cI .i64) x.2.2.1)), V.int x.2.2.2.1, V.bool x.2.2.2.2.1, V.int x.2.2.2.2.2.1, V.int x.2.2.2.2.2.2.1]])), (.r 128, some (.o 7 [[.d (.row .own 4 (Rw (GFrame.cells .own) x.2.2.2.2.2.2.2.1.frames)), .d (.row .own 1 (Rw (cL .own 1 (cI .i64)) x.2.2.2.2.2.2.2.1.heap)), .d (.row .own 1 (Rw (cI .i64) x.2.2.2.2.2.2.2.1.out)), V.int x.2.2.2.2.2.2.2.1.fuel0, V.bool x.2.2.2.2.2.2.2.1.done, V.int x.2.2.2.2.2.2.2.1.value, V.int x.2.2.2.2.2.2.2.1.trap]])), (.r 256, some (.o 2 [[.d (.row .bor 3 (Rw (GFunc.cells .bor) x.2.2.2.2.2.2.2.2.program.funcs)), .d (.row .own 1 (Rw (cL .own 1 (cI .i64)) x.2.2.2.2.2.2.2.2.h))]]))]) (fun x => Yes (some (.inr x)) o1) ?_ ?_
       rotate_left
       rintro ⟨b1, b2, b3, b4, b5, b6, b7, b8, b9⟩ h
       obtain rfl := h.get
       have h := hK
       clear hK
       (try (simp only [Sum.elim_inl, Sum.elim_inr] at h))
       refine sw_gh ?_
       refine gh_sw ?_)
    | (with_reducible refine here_meet (N0 := 10000000) ?_
       (try (apply gh_conv 128; (focus (simp only [lkd, lkb, reduceCtorEq, Nat.reduceEqDiff]; try rfl)); (focus (apply All2.cons; (focus (apply All2.cons; (focus (first | exact Conv1.nil (m := .own) (s := 4) | exact .same)); apply All2.cons; (focus (first | exact Conv1.nil (m := .own) (s := 1) | exact .same)); apply All2.cons; (focus (first | exact Conv1.nil (m := .own) (s := 1) | exact .same)); apply All2.cons; (focus (exact .same)); apply All2.cons; (focus (exact .same)); apply All2.cons; (focus (exact .same)); apply All2.cons; (focus (exact .same)); exact .nil)); exact .nil))))
       refine mtA (_, _, _, _, _, _, _, _, _) h))
 | ((with_reducible refine fi 12 ?_ ?_); (focus (with_reducible assumption))
    first
    | (with_reducible refine here_join (a := (.seq (.region 2 _ _) _)) (b := (.seq (.region 4 _ _) _)) ?_
       revert h
       with_reducible refine bind_elimY ?_
       intro o1 h hK
       unfold impl_Step.a1 at h
       refine sw_join (ι := (List GFrame) × (List (List Int)) × (List Int) × Int × Bool × Int × Int × GState × Gprog) 10000000 (fun x => [(.s 3, some (.v (.mp 64 7 0 0))), (.s 4, some (.v (.mp 128 7 0 0))), (.s 5, some (.v (.mp 256 2 0 0))), (.r 64, some (.o 7 [[.d (.row .bor 4 (Rw (GFrame.cells .bor) x.1)), .d (.row .bor 1 (Rw (cL .bor 1 (cI .i64)) x.2.1)), .d (.row .bor 1 (Rw (cI .i64) x.2.2.1)), V.int x.2.2.2.1, V.bool x.2.2.2.2.1, V.int x.2.2.2.2.2.1, V.int x.2.2.2.2.2.2.1]])), (.r 128, some (.o 7 [[.d (.row .own 4 (Rw (GFrame.cells .own) x.2.2.2.2.2.2.2.1.frames)), .d (.row .own 1 (Rw (cL .own 1 (cI .i64)) x.2.2.2.2.2.2.2.1.heap)), .d (.row .own 1 (Rw (cI .i64) x.2.2.2.2.2.2.2.1.out)), V.int x.2.2.2.2.2.2.2.1.fuel0, V.bool x.2.2.2.2.2.2.2.1.done, V.int x.2.2.2.2.2.2.2.1.value, V.int x.2.2.2.2.2.2.2.1.trap]])), (.r 256, some (.o 2 [[.d (.row .bor 3 (Rw (GFunc.cells .bor) x.2.2.2.2.2.2.2.2.program.funcs)), .d (.row .own 1 (Rw (cL .own 1 (cI .i64)) x.2.2.2.2.2.2.2.2.h))]]))]) (fun x => Yes (some (.inr x)) o1) ?_ ?_
       rotate_left
       rintro ⟨b1, b2, b3, b4, b5, b6, b7, b8, b9⟩ h
       obtain rfl := h.get
       have h := hK
       clear hK
       (try (simp only [Sum.elim_inl, Sum.elim_inr] at h))
       refine sw_gh ?_
       refine gh_sw ?_)
    | (with_reducible refine here_meet (N0 := 10000000) ?_
       (try (apply gh_conv 128; (focus (simp only [lkd, lkb, reduceCtorEq, Nat.reduceEqDiff]; try rfl)); (focus (apply All2.cons; (focus (apply All2.cons; (focus (first | exact Conv1.nil (m := .own) (s := 4) | exact .same)); apply All2.cons; (focus (first | exact Conv1.nil (m := .own) (s := 1) | exact .same)); apply All2.cons; (focus (first | exact Conv1.nil (m := .own) (s := 1) | exact .same)); apply All2.cons; (focus (exact .same)); apply All2.cons; (focus (exact .same)); apply All2.cons; (focus (exact .same)); apply All2.cons; (focus (exact .same)); exact .nil)); exact .nil))))
       refine mtA (_, _, _, _, _, _, _, _, _) h))
 | ((with_reducible refine fi 7 ?_ ?_); (focus (with_reducible assumption))
    first
    | (with_reducible refine here_join (a := (.seq (.region 12 _ _) _)) (b := (.seq (.region 14 _ _) _)) ?_
       revert h
       with_reducible refine bind_elimY ?_
       intro o4 h hK
       unfold spec_StateRight.a4 at h
       refine sw_join (ι := (List GFunc) × (List GFrame) × (List (List Int)) × (List Int) × Int × Bool × Int × Int × Int × Int × (List Int) × (List Int) × Int × Int) 40000000 (fun x => [(.s 2, some (.v (.mp 0 1 0 0))), (.s 3, some (.v (.mp 64 7 0 0))), (.s 5, some (.v (V.int x.2.2.2.2.2.2.2.2.2.2.2.2.1))), (.s 6, some (.v (.mp 30000640 4 0 0))), (.s 7, some (.v (V.int x.2.2.2.2.2.2.2.2.2.2.2.2.2))), (.r 0, some (.o 1 [[.d (.row .bor 3 (Rw (GFunc.cells .bor) x.1))]])), (.r 64, some (.o 7 [[.d (.row .bor 4 (Rw (GFrame.cells .bor) x.2.1)), .d (.row .bor 1 (Rw (cL .bor 1 (cI .i64)) x.2.2.1)), .d (.row .bor 1 (Rw (cI .i64) x.2.2.2.1)), V.int x.2.2.2.2.1, V.bool x.2.2.2.2.2.1, V.int x.2.2.2.2.2.2.1, V.int x.2.2.2.2.2.2.2.1]])), (.r 30000640, some (.o 4 [[V.int x.2.2.2.2.2.2.2.2.1, V.int x.2.2.2.2.2.2.2.2.2.1, .d (.row .bor 1 (Rw (cI .i64) x.2.2.2.2.2.2.2.2.2.2.1)), .d (.row .bor 1 (Rw (cI .i64) x.2.2.2.2.2.2.2.2.2.2.2.1))]]))]) (fun x => Yes (some (x)) o4) ?_ ?_
       rotate_left
       rintro ⟨b1, b2, b3, b4, b5, b6, b7, b8, b9, b10, b11, b12, b13, b14⟩ h
       obtain rfl := h.get
       have h := hK
       clear hK
       (try (simp only [Sum.elim_inl, Sum.elim_inr] at h))
       refine sw_gh ?_
       refine gh_sw ?_)
    | (with_reducible refine here_loop (c := (.seq (.seq (.region 8 _ _) _) _)) ?_
       revert h
       with_reducible refine bind_elimY ?_
       intro o3 h hK
       refine lpA (β := (List GFunc) × (List GFrame) × (List (List Int)) × (List Int) × Int × Bool × Int × Int × Int) 30000000 (fun x => [(.s 2, some (.v (.mp 0 1 0 0))), (.s 3, some (.v (.mp 64 7 0 0))), (.s 5, some (.v (V.int x.2.2.2.2.2.2.2.2.2))), (.r 0, some (.o 1 [[.d (.row .bor 3 (Rw (GFunc.cells .bor) x.2.1))]])), (.r 64, some (.o 7 [[.d (.row .bor 4 (Rw (GFrame.cells .bor) x.2.2.1)), .d (.row .bor 1 (Rw (cL .bor 1 (cI .i64)) x.2.2.2.1)), .d (.row .bor 1 (Rw (cI .i64) x.2.2.2.2.1)), V.int x.2.2.2.2.2.1, V.bool x.2.2.2.2.2.2.1, V.int x.2.2.2.2.2.2.2.1, V.int x.2.2.2.2.2.2.2.2.1]]))]) (fun x => Yes (spec_StateRight.l3 x.1 x.2.1 x.2.2.1 x.2.2.2.1 x.2.2.2.2.1 x.2.2.2.2.2.1 x.2.2.2.2.2.2.1 x.2.2.2.2.2.2.2.1 x.2.2.2.2.2.2.2.2.1 x.2.2.2.2.2.2.2.2.2) o3) (_, _, _, _, _, _, _, _, _, _) h ?_
       rintro ⟨_ | k, a1, a2, a3, a4, a5, a6, a7, a8, a9⟩ h
       · simp only [spec_StateRight.l3] at h; exact h.none
       simp only [spec_StateRight.l3] at h
   )
    | (with_reducible refine here_join (a := (.seq (.region 5 _ _) _)) (b := (.seq (.seq (.region 7 _ _) _) _)) ?_
       revert h
       with_reducible refine bind_elimY ?_
       intro o2 h hK
       unfold spec_StateRight.a2 at h
       refine sw_join (ι := (List GFunc) × (List GFrame) × (List (List Int)) × (List Int) × Int × Bool × Int × Int) 20000000 (fun x => [(.s 2, some (.v (.mp 0 1 0 0))), (.s 3, some (.v (.mp 64 7 0 0))), (.r 0, some (.o 1 [[.d (.row .bor 3 (Rw (GFunc.cells .bor) x.1))]])), (.r 64, some (.o 7 [[.d (.row .bor 4 (Rw (GFrame.cells .bor) x.2.1)), .d (.row .bor 1 (Rw (cL .bor 1 (cI .i64)) x.2.2.1)), .d (.row .bor 1 (Rw (cI .i64) x.2.2.2.1)), V.int x.2.2.2.2.1, V.bool x.2.2.2.2.2.1, V.int x.2.2.2.2.2.2.1, V.int x.2.2.2.2.2.2.2]]))]) (fun x => Yes (some (.inr x)) o2) ?_ ?_
       rotate_left
       rintro ⟨b1, b2, b3, b4, b5, b6, b7, b8⟩ h
       obtain rfl := h.get
       have h := hK
       clear hK
       (try (simp only [Sum.elim_inl, Sum.elim_inr] at h))
       refine sw_gh ?_
       refine gh_sw ?_)
    | (with_reducible refine here_join (a := (.seq (.region 1 _ _) _)) (b := (.seq (.seq (.region 3 _ _) _) _)) ?_
       revert h
       with_reducible refine bind_elimY ?_
       intro o1 h hK
       unfold spec_StateRight.a1 at h
       refine sw_join (ι := (List GFunc) × (List GFrame) × (List (List Int)) × (List Int) × Int × Bool × Int × Int) 10000000 (fun x => [(.s 2, some (.v (.mp 0 1 0 0))), (.s 3, some (.v (.mp 64 7 0 0))), (.r 0, some (.o 1 [[.d (.row .bor 3 (Rw (GFunc.cells .bor) x.1))]])), (.r 64, some (.o 7 [[.d (.row .bor 4 (Rw (GFrame.cells .bor) x.2.1)), .d (.row .bor 1 (Rw (cL .bor 1 (cI .i64)) x.2.2.1)), .d (.row .bor 1 (Rw (cI .i64) x.2.2.2.1)), V.int x.2.2.2.2.1, V.bool x.2.2.2.2.2.1, V.int x.2.2.2.2.2.2.1, V.int x.2.2.2.2.2.2.2]]))]) (fun x => Yes (some (.inr x)) o1) ?_ ?_
       rotate_left
       rintro ⟨b1, b2, b3, b4, b5, b6, b7, b8⟩ h
       obtain rfl := h.get
       have h := hK
       clear hK
       (try (simp only [Sum.elim_inl, Sum.elim_inr] at h))
       refine sw_gh ?_
       refine gh_sw ?_))
 | (with_reducible refine here_next ?_
    first | refine nxA (_, _, _) h | refine nxA (_, _, _, _, _, _, _, _, _, _) h)
 | (with_reducible refine here_meet ?_
    first | refine mtA (_, _, _, _, _, _, _, _) h | refine mtA (_, _, _, _, _, _, _, _, _, _, _, _, _, _) h)
 | with_reducible refine sw_seq ?_
 | with_reducible refine seqQ_ret ?_
 | with_reducible refine seqQ_exit ?_
 | ((with_reducible refine wp_ite ?_ ?_)
    all_goals (intro hc; (try (simp only [Bool.not_eq_true, Bool.not_eq_false] at hc)); simp only [hc]))
 | (with_reducible refine rskip (hs := ?_) (h2 := ?_)
    · simp only [lkd, lkb, reduceCtorEq, Nat.reduceEqDiff]; done)
 | (with_reducible refine ryes (hs := ?_) (h := ?_)
    · simp only [lkd, lkb, reduceCtorEq, Nat.reduceEqDiff]; done)
 | (with_reducible refine rno (hs := ?_) (h := ?_)
    · simp only [lkd, lkb, reduceCtorEq, Nat.reduceEqDiff, Bool.not_true, Bool.not_false]; done)
 | (with_reducible apply regW_guardN
    · simp only [dstOk, Nat.reduceLT]
    · rfl
    · simp only [lkd, lkb, reduceCtorEq, Nat.reduceEqDiff]; rfl
    all_goals (intro hc; (try (simp only [Bool.not_true, Bool.not_false] at hc))))
 | (with_reducible apply sw_cond
    · simp only [lkd, lkb, reduceCtorEq, Nat.reduceEqDiff]; rfl
    all_goals (intro hc; try (cases hc; done)))
 | ((first
     | ((with_reducible refine gh_ret ?_)
        revert h
        with_reducible refine some_elim ?_
        rintro rfl)
     | (with_reducible refine here_call ?_
        revert h
        with_reducible refine bind_elim ?_
        intro t ht h
        (first
          | ((first
              | ((with_reducible refine here_call (f := 30) ?_); refine call_dataE (c_impl_known ht) ?_ rfl ?_)
              | ((with_reducible refine here_call (f := 32) ?_); refine call_dataE (c_impl_ownState ht) ?_ rfl ?_)
              | ((with_reducible refine here_call (f := 36) ?_); refine call_dataE (c_impl_run_state ht) ?_ rfl ?_)
              | ((with_reducible refine here_call (f := 26) ?_); refine call_dataE (c_spec_l04Right ht) ?_ rfl ?_)
              | ((with_reducible refine here_call (f := 27) ?_); refine call_dataE (c_spec_l06Rest ht) ?_ rfl ?_)
              | ((with_reducible refine here_call (f := 28) ?_); refine call_dataE (c_spec_l06Ends ht) ?_ rfl ?_)
              | ((with_reducible refine here_call (f := 29) ?_); refine call_dataE (c_spec_l06Stands ht) ?_ rfl ?_))
             · first | rfl | (simp; done))
          | ((first
              | ((with_reducible refine here_call (f := 31) ?_); refine call_autoE (c_impl_prog_stateRight ht) ?_ ?_ ?_)
              | ((with_reducible refine here_call (f := 34) ?_); refine call_autoE (c_impl_run_alive ht) ?_ ?_ ?_))
             · simp only [hyb, hyd, GI2_lend, GFunc_lend, GProgram_lend, GFrame_lend, GState_lend, Gprog_lend, Gworld_lend, LcIi64_lend, List.take_of_length_le, lkd, lkb, reduceCtorEq, Nat.reduceEqDiff, *]; first | rfl | done
             · first | rfl | (simp only [nbd, nbb, GI2_nb, GFunc_nb, GProgram_nb, GFrame_nb, GState_nb, Gprog_nb, Gworld_nb, LcIi64_nb]; done)
             simp only [V.namesOf, V.namesOfL, List.foldl_cons, List.foldl_nil, List.nil_append, List.append_nil, List.cons_append])
          | ((with_reducible refine here_call (f := 33) ?_); refine call_give (c_impl_prog_runOf ht) ?_ rfl ?_
             · (simp only [hyb, hyd, GI2_lend, GFunc_lend, GProgram_lend, GFrame_lend, GState_lend, Gprog_lend, Gworld_lend, LcIi64_lend]; first | exact .same | (refine .ptr ?_; repeat' (first | exact All2.nil | refine All2.cons ?_ ?_ | exact ConvD.same | exact ConvD.nil))))
          | ((with_reducible refine here_call (f := 35) ?_); refine call_obj [10000128] (c_impl_run_step ht) (by decide) ?_ ?_
             · first | exact .inl rfl | (refine .inr ⟨?_, ?_⟩; (focus (first | rfl | (simp only [nbd, nbb, GI2_nb, GFunc_nb, GProgram_nb, GFrame_nb, GState_nb, Gprog_nb, Gworld_nb, LcIi64_nb]; done))); (focus (simp [C.nb, V.nbLL, V.nbL, V.nb, D.nb]; done)))
             simp only [obd, hyb, hyd, GI2_lend, GFunc_lend, GProgram_lend, GFrame_lend, GState_lend, Gprog_lend, Gworld_lend, LcIi64_lend, lkd, lkb, reduceCtorEq, Nat.reduceEqDiff, Prog.wp, Prog.wp_bind, Prog.bind, Prog.ofO, List.take_of_length_le, *])))
     | ((with_reducible refine fi 9 ?_ ?_); (focus (with_reducible assumption))
        first
        | ((first | with_reducible apply regD_opLK [(23, some 99999)] (dst := some 25) (op := .call { callee := .value (.func 33), args := _, argTypes := _ }) | with_reducible apply regW_opLK [(23, some 99999)] (dst := some 25) (op := .call { callee := .value (.func 33), args := _, argTypes := _ }))
           · simp only [dstOk, Nat.reduceLT]
           · simp only [Nat.reduceAdd]; rfl
           intro k hk
           with_reducible apply pre_slot 23
           simp only [rxb, Nat.reduceAdd, Nat.reduceLeDiff, rxd, lkd, lkb, reduceCtorEq, Nat.reduceEqDiff, GI2_Dset, GFunc_Dset, GProgram_Dset, GFrame_Dset, GState_Dset, Gprog_Dset, Gworld_Dset, LcIi64_Dset, *]
           with_reducible apply pre_nil)
        | ((first | with_reducible apply regD_opLK [(30, some 99999)] (dst := some 31) (op := .call { callee := .value (.func 36), args := _, argTypes := _ }) | with_reducible apply regW_opLK [(30, some 99999)] (dst := some 31) (op := .call { callee := .value (.func 36), args := _, argTypes := _ }))
           · simp only [dstOk, Nat.reduceLT]
           · simp only [Nat.reduceAdd]; rfl
           intro k hk
           with_reducible apply pre_slot 30
           simp only [rxb, Nat.reduceAdd, Nat.reduceLeDiff, rxd, lkd, lkb, reduceCtorEq, Nat.reduceEqDiff, GI2_Dset, GFunc_Dset, GProgram_Dset, GFrame_Dset, GState_Dset, Gprog_Dset, Gworld_Dset, LcIi64_Dset, *]
           with_reducible apply pre_nil))
     | ((with_reducible refine fi 12 ?_ ?_); (focus (with_reducible assumption))
        first
        | ((first | with_reducible apply regD_opLK [(23, some 99999)] (dst := some 25) (op := .call { callee := .value (.func 33), args := _, argTypes := _ }) | with_reducible apply regW_opLK [(23, some 99999)] (dst := some 25) (op := .call { callee := .value (.func 33), args := _, argTypes := _ }))
           · simp only [dstOk, Nat.reduceLT]
           · simp only [Nat.reduceAdd]; rfl
           intro k hk
           with_reducible apply pre_slot 23
           simp only [rxb, Nat.reduceAdd, Nat.reduceLeDiff, rxd, lkd, lkb, reduceCtorEq, Nat.reduceEqDiff, GI2_Dset, GFunc_Dset, GProgram_Dset, GFrame_Dset, GState_Dset, Gprog_Dset, Gworld_Dset, LcIi64_Dset, *]
           with_reducible apply pre_nil)
        | ((first | with_reducible apply regD_opLK [(30, some 99999)] (dst := some 31) (op := .call { callee := .value (.func 36), args := _, argTypes := _ }) | with_reducible apply regW_opLK [(30, some 99999)] (dst := some 31) (op := .call { callee := .value (.func 36), args := _, argTypes := _ }))
           · simp only [dstOk, Nat.reduceLT]
           · simp only [Nat.reduceAdd]; rfl
           intro k hk
           with_reducible apply pre_slot 30
           simp only [rxb, Nat.reduceAdd, Nat.reduceLeDiff, rxd, lkd, lkb, reduceCtorEq, Nat.reduceEqDiff, GI2_Dset, GFunc_Dset, GProgram_Dset, GFrame_Dset, GState_Dset, Gprog_Dset, Gworld_Dset, LcIi64_Dset, *]
           with_reducible apply pre_nil))
     | (with_reducible (first | refine ropD (h := ?_) | refine ropW (h := ?_))
        intro k hk)
     | skip)
    simp only [bn, lkb, evb, evd, Value.oneCell', setSeg, reduceCtorEq, Nat.reduceAdd, Nat.reduceMul, Nat.reduceSub, Nat.reduceLT, Nat.reduceLeDiff, Nat.reduceEqDiff, Int.reduceNeg, Int.reduceToNat, ty2, ty3, ty4, ty5, ty6, ty23, ty25, ty26, ty27, ty28, ty30, ty56, ty58, ty63, ty92, ty94, ty98, ty102, ty104, ty109, GFrame.cells, GFunc.cells, GI2.cells, GProgram.cells, GState.cells, Gprog.cells, Gworld.cells, cI, cB, cS, cL, GI2_e, GFunc_e, GProgram_e, GFrame_e, GState_e, Gprog_e, Gworld_e, LcIi64_e, *]
    try (refine hk.use _ _ _ _ ?_; clear hk k))
 | fail)
  all_goals (try rfl)
  all_goals (try (simp; done))
  all_goals (try (simp_all; done))
def c_impl_Run := @And.left _ _ gr26
def c_impl_StateRight := @And.left _ _ (@And.right _ _ gr26)
def c_impl_Step := @And.left _ _ (@And.right _ _ (@And.right _ _ gr26))
def c_spec_StateRight := @And.left _ _ (@And.right _ _ (@And.right _ _ (@And.right _ _ gr26)))
def c_spec_l04Is := (@And.right _ _ (@And.right _ _ (@And.right _ _ (@And.right _ _ gr26))))
end Go.Proofs.YtdlaplgofgklnaaGreat