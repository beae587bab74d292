/- WHAT IS PROVED: an abstract walker over the model, what some functions of the program answer, and laws of these answers. Conditions: none. -/
import Derived.Test.YtdlaplgofgklnaaGreatKf20
namespace Go.Proofs.YtdlaplgofgklnaaGreat
open Go.Proofs Go.Proofs.YtdlaplgofgklnaaGreat.L
set_option maxHeartbeats 8000000
set_option linter.unusedSimpArgs false
set_option linter.unusedVariables false
set_option maxRecDepth 100000
set_option linter.defProp false
theorem GFrame_frz (m : Md) (l : List GFrame) : D.frzLL (Rw (GFrame.cells m) l) = Rw (GFrame.cells m.fz) l := Rw_frz (fun x => by simp only [GFrame.cells, D.frzL, D.frz, cI_frz]) l
theorem GFrame_fset (l : List GFrame) (i : Nat) (func0_ : Int) (pc_ : Int) (locals_ : (List Int)) (stack_ : (List Int)) : (dd (Rw (GFrame.cells .frz) l)).set i [V.d (.p (.int .i64 func0_)), V.d (.p (.int .i64 pc_)), V.d (.row .frz 1 (Rw (cI .i64) locals_)), V.d (.row .frz 1 (Rw (cI .i64) stack_))] = dd (Rw (GFrame.cells .frz) (l.set i ⟨func0_, pc_, locals_, stack_⟩)) := Rw_set (f := (GFrame.cells .frz)) l i ⟨func0_, pc_, locals_, stack_⟩
theorem GFrame_fone (func0_ : Int) (pc_ : Int) (locals_ : (List Int)) (stack_ : (List Int)) : [[.p (.int .i64 func0_), .p (.int .i64 pc_), .row .frz 1 (Rw (cI .i64) locals_), .row .frz 1 (Rw (cI .i64) stack_)]] = Rw (GFrame.cells .frz) [⟨func0_, pc_, locals_, stack_⟩] := rfl
theorem GFrame_fcons (l : List GFrame) (func0_ : Int) (pc_ : Int) (locals_ : (List Int)) (stack_ : (List Int)) : [.p (.int .i64 func0_), .p (.int .i64 pc_), .row .frz 1 (Rw (cI .i64) locals_), .row .frz 1 (Rw (cI .i64) stack_)] :: Rw (GFrame.cells .frz) l = Rw (GFrame.cells .frz) (⟨func0_, pc_, locals_, stack_⟩ :: l) := rfl
theorem GFrame_fdone (func0_ : Int) (pc_ : Int) (locals_ : (List Int)) (stack_ : (List Int)) : [[V.d (.p (.int .i64 func0_)), V.d (.p (.int .i64 pc_)), V.d (.row .frz 1 (Rw (cI .i64) locals_)), V.d (.row .frz 1 (Rw (cI .i64) stack_))]] = dd (Rw (GFrame.cells .frz) [⟨func0_, pc_, locals_, stack_⟩]) := rfl
theorem GFrame_fdcons (l : List GFrame) (func0_ : Int) (pc_ : Int) (locals_ : (List Int)) (stack_ : (List Int)) : [V.d (.p (.int .i64 func0_)), V.d (.p (.int .i64 pc_)), V.d (.row .frz 1 (Rw (cI .i64) locals_)), V.d (.row .frz 1 (Rw (cI .i64) stack_))] :: dd (Rw (GFrame.cells .frz) l) = dd (Rw (GFrame.cells .frz) (⟨func0_, pc_, locals_, stack_⟩ :: l)) := rfl
theorem GState_frz (m : Md) (l : List GState) : D.frzLL (Rw (GState.cells m) l) = Rw (GState.cells m.fz) l := Rw_frz (fun x => by simp only [GState.cells, D.frzL, D.frz, GFrame_frz, LcIi64_frz, cI_frz]) l
theorem GState_fset (l : List GState) (i : Nat) (frames_ : (List GFrame)) (heap_ : (List (List Int))) (out_ : (List Int)) (fuel0_ : Int) (done_ : Bool) (value_ : Int) (trap_ : Int) : (dd (Rw (GState.cells .frz) l)).set i [V.d (.row .frz 4 (Rw (GFrame.cells .frz) frames_)), V.d (.row .frz 1 (Rw (cL .frz 1 (cI .i64)) heap_)), V.d (.row .frz 1 (Rw (cI .i64) out_)), V.d (.p (.int .i64 fuel0_)), V.d (.p (.bool done_)), V.d (.p (.int .i64 value_)), V.d (.p (.int .i64 trap_))] = dd (Rw (GState.cells .frz) (l.set i ⟨frames_, heap_, out_, fuel0_, done_, value_, trap_⟩)) := Rw_set (f := (GState.cells .frz)) l i ⟨frames_, heap_, out_, fuel0_, done_, value_, trap_⟩
theorem GState_fone (frames_ : (List GFrame)) (heap_ : (List (List Int))) (out_ : (List Int)) (fuel0_ : Int) (done_ : Bool) (value_ : Int) (trap_ : Int) : [[.row .frz 4 (Rw (GFrame.cells .frz) frames_), .row .frz 1 (Rw (cL .frz 1 (cI .i64)) heap_), .row .frz 1 (Rw (cI .i64) out_), .p (.int .i64 fuel0_), .p (.bool done_), .p (.int .i64 value_), .p (.int .i64 trap_)]] = Rw (GState.cells .frz) [⟨frames_, heap_, out_, fuel0_, done_, value_, trap_⟩] := rfl
theorem GState_fcons (l : List GState) (frames_ : (List GFrame)) (heap_ : (List (List Int))) (out_ : (List Int)) (fuel0_ : Int) (done_ : Bool) (value_ : Int) (trap_ : Int) : [.row .frz 4 (Rw (GFrame.cells .frz) frames_), .row .frz 1 (Rw (cL .frz 1 (cI .i64)) heap_), .row .frz 1 (Rw (cI .i64) out_), .p (.int .i64 fuel0_), .p (.bool done_), .p (.int .i64 value_), .p (.int .i64 trap_)] :: Rw (GState.cells .frz) l = Rw (GState.cells .frz) (⟨frames_, heap_, out_, fuel0_, done_, value_, trap_⟩ :: l) := rfl
theorem GState_fdone (frames_ : (List GFrame)) (heap_ : (List (List Int))) (out_ : (List Int)) (fuel0_ : Int) (done_ : Bool) (value_ : Int) (trap_ : Int) : [[V.d (.row .frz 4 (Rw (GFrame.cells .frz) frames_)), V.d (.row .frz 1 (Rw (cL .frz 1 (cI .i64)) heap_)), V.d (.row .frz 1 (Rw (cI .i64) out_)), V.d (.p (.int .i64 fuel0_)), V.d (.p (.bool done_)), V.d (.p (.int .i64 value_)), V.d (.p (.int .i64 trap_))]] = dd (Rw (GState.cells .frz) [⟨frames_, heap_, out_, fuel0_, done_, value_, trap_⟩]) := rfl
theorem GState_fdcons (l : List GState) (frames_ : (List GFrame)) (heap_ : (List (List Int))) (out_ : (List Int)) (fuel0_ : Int) (done_ : Bool) (value_ : Int) (trap_ : Int) : [V.d (.row .frz 4 (Rw (GFrame.cells .frz) frames_)), V.d (.row .frz 1 (Rw (cL .frz 1 (cI .i64)) heap_)), V.d (.row .frz 1 (Rw (cI .i64) out_)), V.d (.p (.int .i64 fuel0_)), V.d (.p (.bool done_)), V.d (.p (.int .i64 value_)), V.d (.p (.int .i64 trap_))] :: dd (Rw (GState.cells .frz) l) = dd (Rw (GState.cells .frz) (⟨frames_, heap_, out_, fuel0_, done_, value_, trap_⟩ :: l)) := rfl
def spec_l01Src_l06State.l1 : Nat → Gl01Src → (List GFunc) → GState → GState → Int → Option (Gl01Src × GState × GState)
  | 0, _, _, _, _, _ => none
  | k + 1, a1, a2, a3, a4, a5 => cond ((decide (a5 > 0))) ((spec_Step k ((⟨a2⟩ : GProgram)) a4).bind fun t5 => spec_l01Src_l06State.l1 k a1 a2 a3 t5 ((IntKind.i64.wrap (a5 - 1)))) (some (a1, a3, a4))
def spec_l01Src_l06State.l3 : Nat → Gl01Src → GState → GState → Option (Gl01Src × GState × GState)
  | 0, _, _, _ => none
  | k + 1, a1, a2, a3 => (spec_l01Src_n k a1 3).bind fun t12 => cond ((decide (((a3.heap.length : Int)) < ((IntKind.i64.wrap (29 + t12.1)))))) (gd ((a3.heap.length + 1) * 24 ≤ 35184372088832 ∧ a3.heap.length + 1 ≤ 35184372088832) (spec_l01Src_l06State.l3 k t12.2 a2 ((⟨a3.frames, (a3.heap ++ [[1]]), a3.out, a3.fuel0, a3.done, a3.value, a3.trap⟩ : GState)))) (some (t12.2, a2, a3))
def spec_l01Src_l06State.a2 (k : Nat) (a1 : Gl01Src) (a2 : GState) (a3 : GState) : Option (Gl01Src × GState × GState) :=
  (spec_l01Src_one k a1 12).bind fun t7 => cond t7.1 ((spec_l01Src_n k t7.2 6).bind fun t8 => cond ((t8.1 == 0)) (some (t8.2, a2, (⟨a3.frames, a3.heap, a3.out, a3.fuel0, (!a3.done), a3.value, a3.trap⟩ : GState))) (cond ((t8.1 == 1)) (some (t8.2, a2, (⟨a3.frames, a3.heap, a3.out, a3.fuel0, a3.done, 5, a3.trap⟩ : GState))) (cond ((t8.1 == 2)) (cond ((decide (((a3.frames.length : Int)) > 0))) ((spec_l01Src_n k t8.2 70).bind fun t9 => (idx a3.frames 0).bind fun m10 => some (t9.2, a2, (⟨(a3.frames.set 0 ((⟨m10.func0, (IntKind.i64.wrap (t9.1 - 2)), m10.locals, m10.stack⟩ : GFrame))), a3.heap, a3.out, a3.fuel0, a3.done, a3.value, a3.trap⟩ : GState))) (some (t8.2, a2, a3))) (cond ((t8.1 == 3)) (cond ((decide (((a3.frames.length : Int)) > 0))) ((idx a3.frames 0).bind fun m11 => gd ((m11.stack.length + 1) * 8 ≤ 35184372088832 ∧ m11.stack.length + 1 ≤ 35184372088832) (some (t8.2, a2, (⟨(a3.frames.set 0 ((⟨m11.func0, m11.pc, m11.locals, (m11.stack ++ [1])⟩ : GFrame))), a3.heap, a3.out, a3.fuel0, a3.done, a3.value, a3.trap⟩ : GState)))) (some (t8.2, a2, a3))) (cond ((t8.1 == 4)) ((spec_l01Src_l06State.l3 k t8.2 a2 a3).bind fun o3 => some (o3.1, o3.2.1, o3.2.2)) ((spec_l01Src_n k t8.2 3).bind fun t13 => gd (0 ≤ (IntKind.i64.wrap (49 + t13.1)) ∧ ((IntKind.i64.wrap (49 + t13.1))) * 8 ≤ 35184372088832 ∧ (IntKind.i64.wrap (49 + t13.1)) ≤ 35184372088832) (gd ((a3.heap.length + 1) * 24 ≤ 35184372088832 ∧ a3.heap.length + 1 ≤ 35184372088832) (some (t13.2, a2, (⟨a3.frames, (a3.heap ++ [(List.replicate ((IntKind.i64.wrap (49 + t13.1))).toNat 0)]), a3.out, a3.fuel0, a3.done, a3.value, a3.trap⟩ : GState)))))))))) (some (t7.2, a2, a3))
def spec_l01Src_l06State (k : Nat) (p0 : Gl01Src) (p1 : GProgram) : Option (GState × Gl01Src) :=
  (spec_l01Src_n k p0 ((p1.funcs.length : Int))).bind fun t1 => (spec_l01Src_l06Args k t1.2 p1 t1.1).bind fun t2 => (spec_Begin k p1 t1.1 t2.1 400).bind fun t3 => (spec_l01Src_n k t2.2 60).bind fun t4 => (spec_l01Src_l06State.l1 k t4.2 p1.funcs ((⟨[], [], [], 0, false, 0, 0⟩ : GState)) t3 t4.1).bind fun o1 => (spec_l01Src_l06Fuel k o1.1).bind fun t6 => (spec_l01Src_l06State.a2 k t6.2 o1.2.1 ((⟨o1.2.2.frames, o1.2.2.heap, o1.2.2.out, t6.1, o1.2.2.done, o1.2.2.value, o1.2.2.trap⟩ : GState))).bind fun o2 => some (o2.2.2, o2.1)
theorem c_spec_l01Src_l06State : (∀ {k : Nat} {p0 : Gl01Src} {p1 : GProgram} {r : GState × Gl01Src}, spec_l01Src_l06State k p0 p1 = some r → Con Tryz.prog 67 [.mp 0 4 0 0, .agg [.d (.row .bor 3 (Rw (GFunc.cells .bor) p1.funcs))]] [.o 4 [[.d (.row .bor 1 (Rw (cI .u8) p0.b)), V.int p0.at0, .d (.p (.int .u64 p0.mix)), V.int p0.size]]] (.agg [.d (.row .own 4 (Rw (GFrame.cells .own) r.1.frames)), .d (.row .own 1 (Rw (cL .own 1 (cI .i64)) r.1.heap)), .d (.row .own 1 (Rw (cI .i64) r.1.out)), V.int r.1.fuel0, V.bool r.1.done, V.int r.1.value, V.int r.1.trap]) [.o 4 [[.d (.row .bor 1 (Rw (cI .u8) r.2.b)), V.int r.2.at0, .d (.p (.int .u64 r.2.mix)), V.int r.2.size]]]) := by
  all_goals intros
  all_goals rename_i h
  all_goals first
    | (with_reducible refine isf 67 ?_
       refine csw Tryz.func67 Tryz.call67 (by simp [Tryz.ntmps67]) (h := ?_)
       refine mkf 67 fun hF => ?_
       rw [Tryz.ntmps67, Tryz.results67]
       unfold spec_l01Src_l06State at h)
  all_goals (replace h := Yes.mk h; simp only [entryS, entryO, Nat.reduceAdd, List.length_nil, List.length_cons])
  repeat' (first
 | ((with_reducible refine fi 67 ?_ ?_); (focus (with_reducible assumption))
    first
    | (with_reducible refine here_reg (i := 10) ?_
       refine sw_gh ?_
       with_reducible apply gh_nameCell 961 1
       · simp only [lkd, lkb, reduceCtorEq, Nat.reduceEqDiff]; rfl
       · rfl
       simp only [List.set_cons_zero, List.set_cons_succ, Nat.reduceAdd, Rw_length]
       refine gh_sw ?_)
    | (with_reducible refine here_reg (i := 22) ?_
       refine sw_gh ?_
       with_reducible apply gh_nameCell 961 1
       · simp only [lkd, lkb, reduceCtorEq, Nat.reduceEqDiff]; rfl
       · rfl
       simp only [List.set_cons_zero, List.set_cons_succ, Nat.reduceAdd, Rw_length]
       refine gh_sw ?_))
 | (with_reducible (first | refine sw_reg ?_ | refine sw_ret ?_ | refine sw_skip ?_ | refine sw_block ?_ | refine sw_exit ?_ | refine seqQ_normal ?_ | refine blockQ_normal ?_ | refine blockQ_ret ?_ | refine blockQ_this ?_ | refine blockQ_other (by decide) ?_ | refine regW_nil ?_ | refine sw_draw mixed ?_ | refine retQ_ret ?_ | refine retQ_normal ?_))
 | (with_reducible refine regD_nil ?_
    refine ⟨by kernel_rfl, ?_⟩)
 | (revert h; (first | ((with_reducible refine idx_elim ?_); intro m hm1 hm2 hm3 h; (try (simp only [Int.reduceToNat] at hm3)); (try (revert hm3; (with_reducible apply same_elim); (focus (with_reducible assumption)); rintro rfl)); (try (simp only [List.length_set, List.length_cons, List.length_nil, List.length_replicate, Nat.reduceAdd, Int.cast_ofNat_Int, Nat.zero_add, List.length_append] at hm2))) | (with_reducible refine sidx_elim ?_; intro m hm1 hm3 h) | (with_reducible refine gd_elim ?_; intro hg h; try (have hg2 := hg.2; have hg := hg.1; (try (simp only [Nat.reduceLeDiff] at hg2)); (try (revert hg2; (with_reducible refine toNat_elim hg ?_); intro hg2 hg4)); try (have hg3 := hg2.2; have hg2 := hg2.1; (try (simp only [Nat.reduceLeDiff] at hg3))))) | (with_reducible refine condt_elim ?_ ?_; (focus (with_reducible assumption)); intro h) | (with_reducible refine condf_elim ?_ ?_; (focus (with_reducible assumption)); intro h)))
 | ((with_reducible first | refine pnR ?_ | refine pnE ?_ | refine pmR ?_ | refine pmE ?_)
    obtain rfl := h.get
    have h := hK
    clear hK
    (try (simp only [Sum.elim_inl, Sum.elim_inr] at h)))
 | ((with_reducible refine fi 67 ?_ ?_); (focus (with_reducible assumption))
    first
    | (with_reducible refine here_loop (c := (.seq (.seq (.region 22 _ _) _) _)) ?_
       revert h
       with_reducible refine bind_elimY ?_
       intro o3 h hK
       refine lpA (β := Gl01Src × GState × GState) 30000000 (fun x => [(.s 0, some (.v (.mp 0 4 0 0))), (.s 4, some (.v (.mp 65 7 0 0))), (.s 6, some (.v (.mp 961 7 0 0))), (.r 0, some (.o 4 [[.d (.row .bor 1 (Rw (cI .u8) x.2.1.b)), V.int x.2.1.at0, .d (.p (.int .u64 x.2.1.mix)), V.int x.2.1.size]])), (.r 65, some (.o 7 [[.d (.row .own 4 (Rw (GFrame.cells .own) x.2.2.1.frames)), .d (.row .own 1 (Rw (cL .own 1 (cI .i64)) x.2.2.1.heap)), .d (.row .own 1 (Rw (cI .i64) x.2.2.1.out)), V.int x.2.2.1.fuel0, V.bool x.2.2.1.done, V.int x.2.2.1.value, V.int x.2.2.1.trap]])), (.r 961, some (.o 7 [[.d (.row .own 4 (Rw (GFrame.cells .own) x.2.2.2.frames)), .d (.row .own 1 (Rw (cL .own 1 (cI .i64)) x.2.2.2.heap)), .d (.row .own 1 (Rw (cI .i64) x.2.2.2.out)), V.int x.2.2.2.fuel0, V.bool x.2.2.2.done, V.int x.2.2.2.value, V.int x.2.2.2.trap]]))]) (fun x => Yes (spec_l01Src_l06State.l3 x.1 x.2.1 x.2.2.1 x.2.2.2) o3) (_, _, _, _) h ?_
       rintro ⟨_ | k, a1, a2, a3⟩ h
       · simp only [spec_l01Src_l06State.l3] at h; exact h.none
       simp only [spec_l01Src_l06State.l3] at h
   )
    | (with_reducible refine here_join (a := (.seq (.region 8 _ _) _)) (b := (.seq (.region 24 _ _) _)) ?_
       revert h
       with_reducible refine bind_elimY ?_
       intro o2 h hK
       unfold spec_l01Src_l06State.a2 at h
       refine sw_join (ι := Gl01Src × GState × GState) 20000000 (fun x => [(.s 4, some (.v (.mp 65 7 0 0))), (.s 6, some (.v (.mp 961 7 0 0))), (.r 0, some (.o 4 [[.d (.row .bor 1 (Rw (cI .u8) x.1.b)), V.int x.1.at0, .d (.p (.int .u64 x.1.mix)), V.int x.1.size]])), (.r 65, some (.o 7 [[.d (.row .own 4 (Rw (GFrame.cells .own) x.2.1.frames)), .d (.row .own 1 (Rw (cL .own 1 (cI .i64)) x.2.1.heap)), .d (.row .own 1 (Rw (cI .i64) x.2.1.out)), V.int x.2.1.fuel0, V.bool x.2.1.done, V.int x.2.1.value, V.int x.2.1.trap]])), (.r 961, some (.o 7 [[.d (.row .own 4 (Rw (GFrame.cells .own) x.2.2.frames)), .d (.row .own 1 (Rw (cL .own 1 (cI .i64)) x.2.2.heap)), .d (.row .own 1 (Rw (cI .i64) x.2.2.out)), V.int x.2.2.fuel0, V.bool x.2.2.done, V.int x.2.2.value, V.int x.2.2.trap]]))]) (fun x => Yes (some (x)) o2) ?_ ?_
       rotate_left
       rintro ⟨b1, b2, b3⟩ h
       obtain rfl := h.get
       have h := hK
       clear hK
       (try (simp only [Sum.elim_inl, Sum.elim_inr] at h))
       refine sw_gh ?_
       refine gh_sw ?_)
    | (with_reducible refine here_meet (N0 := 20000000) ?_
       (try (apply gh_resObj 961; (focus (simp only [lkd, lkb, reduceCtorEq, Nat.reduceEqDiff]; try rfl)); simp only [rxb, Nat.reduceAdd, Nat.reduceLeDiff, rxd, lkd, lkb, reduceCtorEq, Nat.reduceEqDiff, *, mmb, Gl01Src_Dset, GI2_Dset, GFunc_Dset, GProgram_Dset, GFrame_Dset, GState_Dset, LcIi64_Dset]))
       refine mtA (_, _, _) h)
    | (with_reducible refine here_loop (c := (.seq (.seq (.region 4 _ _) _) _)) ?_
       revert h
       with_reducible refine bind_elimY ?_
       intro o1 h hK
       refine sw_gh ?_
       (try (apply gh_conv 65; (focus (simp only [lkd, lkb, reduceCtorEq, Nat.reduceEqDiff]; try rfl)); (focus (apply All2.cons; (focus (apply All2.cons; (focus (first | exact Conv1.nil (m := .own) (s := 4) | exact .same)); apply All2.cons; (focus (first | exact Conv1.nil (m := .own) (s := 1) | exact .same)); apply All2.cons; (focus (first | exact Conv1.nil (m := .own) (s := 1) | exact .same)); apply All2.cons; (focus (exact .same)); apply All2.cons; (focus (exact .same)); apply All2.cons; (focus (exact .same)); apply All2.cons; (focus (exact .same)); exact .nil)); exact .nil))))
       (try (apply gh_resObj 961; (focus (simp only [lkd, lkb, reduceCtorEq, Nat.reduceEqDiff]; try rfl)); simp only [rxb, Nat.reduceAdd, Nat.reduceLeDiff, rxd, lkd, lkb, reduceCtorEq, Nat.reduceEqDiff, *, mmb, Gl01Src_Dset, GI2_Dset, GFunc_Dset, GProgram_Dset, GFrame_Dset, GState_Dset, LcIi64_Dset]))
       refine gh_sw ?_
       refine lpA (β := Gl01Src × (List GFunc) × GState × GState × Int) 10000000 (fun x => [(.s 0, some (.v (.mp 0 4 0 0))), (.s 3, some (.v (.mp 1 1 0 0))), (.s 4, some (.v (.mp 65 7 0 0))), (.s 6, some (.v (.mp 961 7 0 0))), (.s 7, some (.v (V.int x.2.2.2.2.2))), (.r 0, some (.o 4 [[.d (.row .bor 1 (Rw (cI .u8) x.2.1.b)), V.int x.2.1.at0, .d (.p (.int .u64 x.2.1.mix)), V.int x.2.1.size]])), (.r 1, some (.o 1 [[.d (.row .bor 3 (Rw (GFunc.cells .bor) x.2.2.1))]])), (.r 65, some (.o 7 [[.d (.row .own 4 (Rw (GFrame.cells .own) x.2.2.2.1.frames)), .d (.row .own 1 (Rw (cL .own 1 (cI .i64)) x.2.2.2.1.heap)), .d (.row .own 1 (Rw (cI .i64) x.2.2.2.1.out)), V.int x.2.2.2.1.fuel0, V.bool x.2.2.2.1.done, V.int x.2.2.2.1.value, V.int x.2.2.2.1.trap]])), (.r 961, some (.o 7 [[.d (.row .own 4 (Rw (GFrame.cells .own) x.2.2.2.2.1.frames)), .d (.row .own 1 (Rw (cL .own 1 (cI .i64)) x.2.2.2.2.1.heap)), .d (.row .own 1 (Rw (cI .i64) x.2.2.2.2.1.out)), V.int x.2.2.2.2.1.fuel0, V.bool x.2.2.2.2.1.done, V.int x.2.2.2.2.1.value, V.int x.2.2.2.2.1.trap]]))]) (fun x => Yes (spec_l01Src_l06State.l1 x.1 x.2.1 x.2.2.1 x.2.2.2.1 x.2.2.2.2.1 x.2.2.2.2.2) o1) (_, _, _, _, _, _) h ?_
       rintro ⟨_ | k, a1, a2, a3, a4, a5⟩ h
       · simp only [spec_l01Src_l06State.l1] at h; exact h.none
       simp only [spec_l01Src_l06State.l1] at h
   )
    | (with_reducible refine here_next (N0 := 10000000) ?_
       (try (apply gh_conv 65; (focus (simp only [lkd, lkb, reduceCtorEq, Nat.reduceEqDiff]; try rfl)); (focus (apply All2.cons; (focus (apply All2.cons; (focus (first | exact Conv1.nil (m := .own) (s := 4) | exact .same)); apply All2.cons; (focus (first | exact Conv1.nil (m := .own) (s := 1) | exact .same)); apply All2.cons; (focus (first | exact Conv1.nil (m := .own) (s := 1) | exact .same)); apply All2.cons; (focus (exact .same)); apply All2.cons; (focus (exact .same)); apply All2.cons; (focus (exact .same)); apply All2.cons; (focus (exact .same)); exact .nil)); exact .nil))))
       (try (apply gh_resObj 961; (focus (simp only [lkd, lkb, reduceCtorEq, Nat.reduceEqDiff]; try rfl)); simp only [rxb, Nat.reduceAdd, Nat.reduceLeDiff, rxd, lkd, lkb, reduceCtorEq, Nat.reduceEqDiff, *, mmb, Gl01Src_Dset, GI2_Dset, GFunc_Dset, GProgram_Dset, GFrame_Dset, GState_Dset, LcIi64_Dset]))
       refine nxA (_, _, _, _, _, _) h))
 | (with_reducible refine here_next ?_
    first | refine nxA (_, _, _, _) h)
 | with_reducible refine sw_seq ?_
 | with_reducible refine seqQ_ret ?_
 | with_reducible refine seqQ_exit ?_
 | ((with_reducible refine wp_ite ?_ ?_)
    all_goals (intro hc; (try (simp only [Bool.not_eq_true, Bool.not_eq_false] at hc)); simp only [hc]))
 | (with_reducible refine rskip (hs := ?_) (h2 := ?_)
    · simp only [lkd, lkb, reduceCtorEq, Nat.reduceEqDiff]; done)
 | (with_reducible refine ryes (hs := ?_) (h := ?_)
    · simp only [lkd, lkb, reduceCtorEq, Nat.reduceEqDiff]; done)
 | (with_reducible refine rno (hs := ?_) (h := ?_)
    · simp only [lkd, lkb, reduceCtorEq, Nat.reduceEqDiff, Bool.not_true, Bool.not_false]; done)
 | (with_reducible apply regW_guardN
    · simp only [dstOk, Nat.reduceLT]
    · rfl
    · simp only [lkd, lkb, reduceCtorEq, Nat.reduceEqDiff]; rfl
    all_goals (intro hc; (try (simp only [Bool.not_true, Bool.not_false] at hc))))
 | (with_reducible apply sw_cond
    · simp only [lkd, lkb, reduceCtorEq, Nat.reduceEqDiff]; rfl
    all_goals (intro hc; try (cases hc; done)))
 | ((first
     | ((with_reducible refine gh_ret ?_)
        revert h
        with_reducible refine some_elim ?_
        rintro rfl)
     | (with_reducible refine here_call ?_
        revert h
        with_reducible refine bind_elim ?_
        intro t ht h
        (first
          | ((first
              | ((with_reducible refine here_call (f := 17) ?_); refine call_autoE (c_spec_Step ht) ?_ ?_ ?_)
              | ((with_reducible refine here_call (f := 105) ?_); refine call_autoE (c_spec_Begin ht) ?_ ?_ ?_))
             · simp only [hyb, hyd, Gl01Src_lend, GI2_lend, GFunc_lend, GProgram_lend, GFrame_lend, GState_lend, LcIi64_lend, List.take_of_length_le, lkd, lkb, reduceCtorEq, Nat.reduceEqDiff, *]; first | rfl | done
             · first | rfl | (simp only [nbd, nbb, Gl01Src_nb, GI2_nb, GFunc_nb, GProgram_nb, GFrame_nb, GState_nb, LcIi64_nb]; done)
             simp only [V.namesOf, V.namesOfL, List.foldl_cons, List.foldl_nil, List.nil_append, List.append_nil, List.cons_append])
          | ((first
              | ((with_reducible refine here_call (f := 98) ?_); refine call_obj [0] (c_spec_l01Src_n ht) (by decide) ?_ ?_)
              | ((with_reducible refine here_call (f := 103) ?_); refine call_obj [0] (c_spec_l01Src_one ht) (by decide) ?_ ?_)
              | ((with_reducible refine here_call (f := 106) ?_); refine call_obj [0] (c_spec_l01Src_l06Args ht) (by decide) ?_ ?_)
              | ((with_reducible refine here_call (f := 107) ?_); refine call_obj [0] (c_spec_l01Src_l06Fuel ht) (by decide) ?_ ?_))
             · first | exact .inl rfl | (refine .inr ⟨?_, ?_⟩; (focus (first | rfl | (simp only [nbd, nbb, Gl01Src_nb, GI2_nb, GFunc_nb, GProgram_nb, GFrame_nb, GState_nb, LcIi64_nb]; done))); (focus (simp [C.nb, V.nbLL, V.nbL, V.nb, D.nb]; done)))
             simp only [obd, hyb, hyd, Gl01Src_lend, GI2_lend, GFunc_lend, GProgram_lend, GFrame_lend, GState_lend, LcIi64_lend, lkd, lkb, reduceCtorEq, Nat.reduceEqDiff, Prog.wp, Prog.wp_bind, Prog.bind, Prog.ofO, List.take_of_length_le, *])))
     | (with_reducible (first | refine ropD (h := ?_) | refine ropW (h := ?_))
        intro k hk)
     | skip)
    simp only [bn, lkb, evb, evd, Value.oneCell', setSeg, reduceCtorEq, Nat.reduceAdd, Nat.reduceMul, Nat.reduceSub, Nat.reduceLT, Nat.reduceLeDiff, Nat.reduceEqDiff, Int.reduceNeg, Int.reduceToNat, ty2, ty3, ty4, ty5, ty22, ty23, ty25, ty26, ty27, ty28, ty30, ty56, ty85, ty92, ty94, ty98, ty138, ty140, GFrame.cells, GFunc.cells, GI2.cells, GProgram.cells, GState.cells, Gl01Src.cells, cI, cB, cS, cL, Gl01Src_e, GI2_e, GFunc_e, GProgram_e, GFrame_e, GState_e, LcIi64_e, buildP, buildSliceP, putParts, structPlaces, chunks, List.replicate, List.flatten_nil, List.flatten_cons, Option.bind_some, bb, LcIi64_b, *]
    try (refine hk.use _ _ _ _ ?_; clear hk k))
 | fail)
  all_goals (try rfl)
  all_goals (try (simp; done))
  all_goals (try (simp_all; done))
set_option linter.defProp false
def spec_l06One (k : Nat) (p0 : (List Int)) : Option (GProgram × GState) :=
  (spec_l01Source k p0).bind fun t1 => (spec_l01Src_l03Program k t1).bind fun t2 => (spec_l01Src_l06State k t2.2 t2.1).bind fun t3 => some (t2.1, t3.1)
theorem cIz_spec_l06One (k : IntKind) (l : List Int) : D.frzLL (Rw (cI k) l) = Rw (cI k) l := Rw_frz (fun x => by simp only [cI, D.frzL, D.frz]) l
theorem c_spec_l06One {k : Nat} {p0 : (List Int)} {r : GProgram × GState} (h : spec_l06One k p0 = some r) : Con Tryz.prog 25 [.d (.row .bor 1 (Rw (cI .u8) p0))] [] (.tup [.agg [.d (.row .frz 3 (Rw (GFunc.cells .frz) r.1.funcs))], .agg [.d (.row .frz 4 (Rw (GFrame.cells .frz) r.2.frames)), .d (.row .frz 1 (Rw (cL .frz 1 (cI .i64)) r.2.heap)), .d (.row .frz 1 (Rw (cI .i64) r.2.out)), V.int r.2.fuel0, V.bool r.2.done, V.int r.2.value, V.int r.2.trap]]) [] := by
  refine csw Tryz.func25 Tryz.call25 (by simp [Tryz.ntmps25]) (h := ?_)
  rw [Tryz.ntmps25, Tryz.results25]
  unfold spec_l06One at h
  replace h := Yes.mk h
  simp only [entryS, entryO, Nat.reduceAdd, List.length_nil, List.length_cons]
  repeat' (first
 | (with_reducible (first | refine sw_reg ?_ | refine sw_ret ?_ | refine sw_skip ?_ | refine sw_block ?_ | refine sw_exit ?_ | refine seqQ_normal ?_ | refine blockQ_normal ?_ | refine blockQ_ret ?_ | refine blockQ_this ?_ | refine blockQ_other (by decide) ?_ | refine regW_nil ?_ | refine sw_draw mixed ?_ | refine retQ_ret ?_ | refine retQ_normal ?_))
 | (with_reducible refine regD_nil ?_
    refine ⟨by kernel_rfl, ?_⟩)
 | (revert h; (first | ((with_reducible refine idx_elim ?_); intro m hm1 hm2 hm3 h; (try (simp only [Int.reduceToNat] at hm3)); (try (revert hm3; (with_reducible apply same_elim); (focus (with_reducible assumption)); rintro rfl)); (try (simp only [List.length_set, List.length_cons, List.length_nil, List.length_replicate, Nat.reduceAdd, Int.cast_ofNat_Int, Nat.zero_add, List.length_append] at hm2))) | (with_reducible refine sidx_elim ?_; intro m hm1 hm3 h) | (with_reducible refine gd_elim ?_; intro hg h; try (have hg2 := hg.2; have hg := hg.1; (try (simp only [Nat.reduceLeDiff] at hg2)); (try (revert hg2; (with_reducible refine toNat_elim hg ?_); intro hg2 hg4)); try (have hg3 := hg2.2; have hg2 := hg2.1; (try (simp only [Nat.reduceLeDiff] at hg3))))) | (with_reducible refine condt_elim ?_ ?_; (focus (with_reducible assumption)); intro h) | (with_reducible refine condf_elim ?_ ?_; (focus (with_reducible assumption)); intro h)))
 | with_reducible refine sw_seq ?_
 | with_reducible refine seqQ_ret ?_
 | with_reducible refine seqQ_exit ?_
 | (with_reducible refine here_retw ?_
    with_reducible apply gh_resSl 64 0
    · simp only [lkd, lkb, reduceCtorEq, Nat.reduceEqDiff]; rfl
    · rfl
    simp only [rxb, Nat.reduceAdd, Nat.reduceLeDiff, rxd, lkd, lkb, reduceCtorEq, Nat.reduceEqDiff, *])
 | (with_reducible refine here_retw ?_
    with_reducible apply gh_resSl 64 1
    · simp only [lkd, lkb, reduceCtorEq, Nat.reduceEqDiff]; rfl
    · rfl
    simp only [rxb, Nat.reduceAdd, Nat.reduceLeDiff, rxd, lkd, lkb, reduceCtorEq, Nat.reduceEqDiff, *])
 | (with_reducible refine here_retw ?_
    with_reducible apply gh_resSl 64 2
    · simp only [lkd, lkb, reduceCtorEq, Nat.reduceEqDiff]; rfl
    · rfl
    simp only [rxb, Nat.reduceAdd, Nat.reduceLeDiff, rxd, lkd, lkb, reduceCtorEq, Nat.reduceEqDiff, *])
 | (with_reducible refine here_retw ?_
    with_reducible apply gh_frz 64 0
    · simp only [lkd, lkb, reduceCtorEq, Nat.reduceEqDiff]; rfl
    · rfl
    · exact .all
    simp only [List.set_cons_zero, List.set_cons_succ, Md.fz, cIz_spec_l06One, Gl01Src_frz, GI2_frz, GFunc_frz, GProgram_frz, GFrame_frz, GState_frz, LcIi64_frz])
 | (with_reducible refine here_retw ?_
    with_reducible apply gh_frz 64 1
    · simp only [lkd, lkb, reduceCtorEq, Nat.reduceEqDiff]; rfl
    · rfl
    · exact .all
    simp only [List.set_cons_zero, List.set_cons_succ, Md.fz, cIz_spec_l06One, Gl01Src_frz, GI2_frz, GFunc_frz, GProgram_frz, GFrame_frz, GState_frz, LcIi64_frz])
 | (with_reducible refine here_retw ?_
    with_reducible apply gh_frz 64 2
    · simp only [lkd, lkb, reduceCtorEq, Nat.reduceEqDiff]; rfl
    · rfl
    · exact .all
    simp only [List.set_cons_zero, List.set_cons_succ, Md.fz, cIz_spec_l06One, Gl01Src_frz, GI2_frz, GFunc_frz, GProgram_frz, GFrame_frz, GState_frz, LcIi64_frz])
 | ((with_reducible refine wp_ite ?_ ?_)
    all_goals (intro hc; (try (simp only [Bool.not_eq_true, Bool.not_eq_false] at hc)); simp only [hc]))
 | (with_reducible refine rskip (hs := ?_) (h2 := ?_)
    · simp only [lkd, lkb, reduceCtorEq, Nat.reduceEqDiff]; done)
 | (with_reducible refine ryes (hs := ?_) (h := ?_)
    · simp only [lkd, lkb, reduceCtorEq, Nat.reduceEqDiff]; done)
 | (with_reducible refine rno (hs := ?_) (h := ?_)
    · simp only [lkd, lkb, reduceCtorEq, Nat.reduceEqDiff, Bool.not_true, Bool.not_false]; done)
 | (with_reducible apply regW_guardN
    · simp only [dstOk, Nat.reduceLT]
    · rfl
    · simp only [lkd, lkb, reduceCtorEq, Nat.reduceEqDiff]; rfl
    all_goals (intro hc; (try (simp only [Bool.not_true, Bool.not_false] at hc))))
 | (with_reducible apply sw_cond
    · simp only [lkd, lkb, reduceCtorEq, Nat.reduceEqDiff]; rfl
    all_goals (intro hc; try (cases hc; done)))
 | ((first
     | ((with_reducible refine gh_ret ?_)
        revert h
        with_reducible refine some_elim ?_
        rintro rfl)
     | (with_reducible refine here_call ?_
        revert h
        with_reducible refine bind_elim ?_
        intro t ht h
        (first
          | ((with_reducible refine here_call (f := 65) ?_)
             refine call_dataE (c_spec_l01Source ht) ?_ rfl ?_
             · first | rfl | (simp; done))
          | ((with_reducible refine here_call (f := 66) ?_)
             refine call_obj [192] (c_spec_l01Src_l03Program ht) (by decide) ?_ ?_
             · first | exact .inl rfl | (refine .inr ⟨?_, ?_⟩; (focus (first | rfl | (simp only [nbd, nbb, Gl01Src_nb, GI2_nb, GFunc_nb, GProgram_nb, GFrame_nb, GState_nb, LcIi64_nb]; done))); (focus (simp [C.nb, V.nbLL, V.nbL, V.nb, D.nb]; done)))
             simp only [obd, hyb, hyd, Gl01Src_lend, GI2_lend, GFunc_lend, GProgram_lend, GFrame_lend, GState_lend, LcIi64_lend, lkd, lkb, reduceCtorEq, Nat.reduceEqDiff, Prog.wp, Prog.wp_bind, Prog.bind, Prog.ofO, List.take_of_length_le, *])
          | ((with_reducible refine here_call (f := 67) ?_)
             refine call_obj [192] (c_spec_l01Src_l06State ht) (by decide) ?_ ?_
             · first | exact .inl rfl | (refine .inr ⟨?_, ?_⟩; (focus (first | rfl | (simp only [nbd, nbb, Gl01Src_nb, GI2_nb, GFunc_nb, GProgram_nb, GFrame_nb, GState_nb, LcIi64_nb]; done))); (focus (simp [C.nb, V.nbLL, V.nbL, V.nb, D.nb]; done)))
             simp only [obd, hyb, hyd, Gl01Src_lend, GI2_lend, GFunc_lend, GProgram_lend, GFrame_lend, GState_lend, LcIi64_lend, lkd, lkb, reduceCtorEq, Nat.reduceEqDiff, Prog.wp, Prog.wp_bind, Prog.bind, Prog.ofO, List.take_of_length_le, *])))
     | (with_reducible (first | refine ropD (h := ?_) | refine ropW (h := ?_))
        intro k hk)
     | skip)
    simp only [or_true, true_and, List.contains_nil, Bool.not_false, List.filter_cons, List.filter_nil, if_true, List.mem_cons, true_or, false_or, bn, lkb, evb, evd, Value.oneCell', setSeg, reduceCtorEq, Nat.reduceAdd, Nat.reduceMul, Nat.reduceSub, Nat.reduceLT, Nat.reduceLeDiff, Nat.reduceEqDiff, Int.reduceNeg, Int.reduceToNat, ty2, ty3, ty4, ty5, ty22, ty23, ty25, ty26, ty27, ty28, ty30, ty56, ty85, ty92, ty94, ty98, ty138, ty140, GFrame.cells, GFunc.cells, GI2.cells, GProgram.cells, GState.cells, Gl01Src.cells, cI, cB, cS, cL, Gl01Src_e, GI2_e, GFunc_e, GProgram_e, GFrame_e, GState_e, LcIi64_e, Gl01Src_fset, Gl01Src_fone, Gl01Src_fcons, Gl01Src_fdone, Gl01Src_fdcons, GFunc_fset, GFunc_fone, GFunc_fcons, GFunc_fdone, GFunc_fdcons, GProgram_fset, GProgram_fone, GProgram_fcons, GProgram_fdone, GProgram_fdcons, GFrame_fset, GFrame_fone, GFrame_fcons, GFrame_fdone, GFrame_fdcons, GState_fset, GState_fone, GState_fcons, GState_fdone, GState_fdcons, *]
    try (refine hk.use _ _ _ _ ?_; clear hk k))
 | fail)
  all_goals (try rfl)
  all_goals (try (simp; done))
  all_goals (try (simp_all; done))
end Go.Proofs.YtdlaplgofgklnaaGreat