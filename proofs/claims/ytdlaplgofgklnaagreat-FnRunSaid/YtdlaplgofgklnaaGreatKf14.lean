/- WHAT IS PROVED: an abstract walker over the model, what some functions of the program answer, and laws of these answers. Conditions: none. -/
import Derived.Test.YtdlaplgofgklnaaGreatKf11
import Derived.Test.YtdlaplgofgklnaaGreatKf12
namespace Go.Proofs.YtdlaplgofgklnaaGreat
open Go.Proofs Go.Proofs.YtdlaplgofgklnaaGreat.L
set_option maxHeartbeats 8000000
set_option linter.unusedSimpArgs false
set_option linter.unusedVariables false
set_option maxRecDepth 100000
set_option linter.defProp false
def impl_StateSame (k : Nat) (p0 : GState) (p1 : GState) : Option (Bool) :=
  (slices_EqualFunc_impl_Frame_impl_Frame_impl_Frame_impl_Frame_vG2sameFrame k p0.frames p1.frames).bind fun t1 => cond t1 ((impl_sameLists k p0.heap p1.heap).bind fun t2 => cond t2 ((slices_Equal_int64_int64 k p0.out p1.out).bind fun t3 => cond t3 (cond ((p0.fuel0 == p1.fuel0)) (cond ((p0.done == p1.done)) (cond ((p0.value == p1.value)) (some ((p0.trap == p1.trap))) (some false)) (some false)) (some false)) (some false)) (some false)) (some false)
def impl_heightsOf.l1 : Nat → (List GFunc) → (List Int) → (List Bool) → (List GI2) → Int → Int → Option ((List GFunc) × (List Int) × (List Bool) × (List GI2))
  | 0, _, _, _, _, _, _ => none
  | k + 1, a1, a2, a3, a4, a5, a6 => cond ((decide (a6 < a5))) ((idx a2 a6).bind fun m2 => impl_heightsOf.l1 k a1 ((a2.set a6.toNat ((-1)))) a3 a4 a5 ((IntKind.i64.wrap (a6 + 1)))) (some (a1, a2, a3, a4))
def impl_heightsOf.a3 (k : Nat) (a1 : (List GFunc)) (a2 : (List Int)) (a3 : (List Bool)) (a4 : GI2) (a5 : (List GI2)) (a6 : Int) (a7 : Int) : Option (((List Int) × Int × Int) ⊕ ((List GFunc) × (List Int) × (List Bool) × GI2 × (List GI2) × Int × Int)) :=
  cond ((decide (a7 < 0))) (some (.inl (a2, a6, 5))) ((impl_Puts a4).bind fun t9 => cond ((decide (((IntKind.i64.wrap (a7 + t9))) > 8))) (some (.inl (a2, a6, 5))) (some (.inr (a1, a2, a3, a4, a5, a6, a7))))
def impl_heightsOf.a5 (k : Nat) (a1 : (List GFunc)) (a2 : (List Int)) (a3 : (List Bool)) (a4 : GI2) (a5 : (List Int)) (a6 : (List GI2)) (a7 : Int) (a8 : Int) (a9 : Int) (a10 : Int) (a11 : Int) (a12 : Int) : Option (((List Int) × Int × Int) ⊕ ((List GFunc) × (List Int) × (List Bool) × GI2 × (List Int) × (List GI2) × Int × Int × Int × Int × Int × Int)) :=
  (idx a2 a10).bind fun m12 => cond ((decide (m12 ≥ 0))) ((impl_Puts a4).bind fun t13 => cond ((m12 != ((IntKind.i64.wrap (a8 + t13))))) (some (.inl (a2, a7, 5))) (some (.inr (a1, a2, a3, a4, a5, a6, a7, a8, a9, a10, a11, a12)))) (some (.inr (a1, a2, a3, a4, a5, a6, a7, a8, a9, a10, a11, a12)))
def impl_heightsOf.l4 : Nat → (List GFunc) → (List Int) → (List Bool) → GI2 → (List Int) → (List GI2) → Int → Int → Int → Int → Int → Option (((List Int) × Int × Int) ⊕ ((List GFunc) × (List Int) × (List Bool) × (List GI2) × Int))
  | 0, _, _, _, _, _, _, _, _, _, _, _ => none
  | k + 1, a1, a2, a3, a4, a5, a6, a7, a8, a9, a10, a11 => cond ((decide (a11 < a10))) ((idx a5 a11).bind fun m11 => cond ((m11 == ((a6.length : Int)))) (some (.inl (a2, a7, 6))) ((impl_heightsOf.a5 k a1 a2 a3 a4 a5 a6 a7 a8 a9 m11 a10 a11).bind fun o5 => Sum.elim (fun o5l => some (.inl (o5l.1, o5l.2.1, o5l.2.2))) (fun o5r => (idx o5r.2.1 o5r.2.2.2.2.2.2.2.2.2.1).bind fun m14 => cond ((decide (m14 < 0))) ((impl_Puts o5r.2.2.2.1).bind fun t15 => (idx o5r.2.2.1 o5r.2.2.2.2.2.2.2.2.2.1).bind fun m16 => impl_heightsOf.l4 k o5r.1 ((o5r.2.1.set o5r.2.2.2.2.2.2.2.2.2.1.toNat ((IntKind.i64.wrap (o5r.2.2.2.2.2.2.2.1 + t15))))) ((o5r.2.2.1.set o5r.2.2.2.2.2.2.2.2.2.1.toNat true)) o5r.2.2.2.1 o5r.2.2.2.2.1 o5r.2.2.2.2.2.1 o5r.2.2.2.2.2.2.1 o5r.2.2.2.2.2.2.2.1 ((if decide (o5r.2.2.2.2.2.2.2.2.2.1 < o5r.2.2.2.2.2.2.2.2.1) = true then o5r.2.2.2.2.2.2.2.2.2.1 else o5r.2.2.2.2.2.2.2.2.1)) o5r.2.2.2.2.2.2.2.2.2.2.1 ((IntKind.i64.wrap (o5r.2.2.2.2.2.2.2.2.2.2.2 + 1)))) (impl_heightsOf.l4 k o5r.1 o5r.2.1 o5r.2.2.1 o5r.2.2.2.1 o5r.2.2.2.2.1 o5r.2.2.2.2.2.1 o5r.2.2.2.2.2.2.1 o5r.2.2.2.2.2.2.2.1 o5r.2.2.2.2.2.2.2.2.1 o5r.2.2.2.2.2.2.2.2.2.2.1 ((IntKind.i64.wrap (o5r.2.2.2.2.2.2.2.2.2.2.2 + 1))))) o5)) (some (.inr (a1, a2, a3, a6, a9)))
def impl_heightsOf.l2 : Nat → (List GFunc) → (List Int) → (List Bool) → (List GI2) → Int → Option (((List Int) × Int × Int) ⊕ ((List Int)))
  | 0, _, _, _, _, _ => none
  | k + 1, a1, a2, a3, a4, a5 => cond ((decide (a5 < ((a4.length : Int))))) ((idx a3 a5).bind fun m5 => cond ((!m5)) (impl_heightsOf.l2 k a1 a2 a3 a4 ((IntKind.i64.wrap (a5 + 1)))) ((idx a4 a5).bind fun m6 => (idx a2 a5).bind fun m7 => (impl_Takes k ((⟨a1⟩ : GProgram)) m6).bind fun t8 => (impl_heightsOf.a3 k a1 a2 ((a3.set a5.toNat false)) m6 a4 a5 ((IntKind.i64.wrap (m7 - t8)))).bind fun o3 => Sum.elim (fun o3l => some (.inl (o3l.1, o3l.2.1, o3l.2.2))) (fun o3r => (impl_next o3r.2.2.2.1 o3r.2.2.2.2.2.1).bind fun t10 => (impl_heightsOf.l4 k o3r.1 o3r.2.1 o3r.2.2.1 o3r.2.2.2.1 t10 o3r.2.2.2.2.1 o3r.2.2.2.2.2.1 o3r.2.2.2.2.2.2 o3r.2.2.2.2.2.1 ((t10.length : Int)) 0).bind fun o4 => Sum.elim (fun o4l => some (.inl (o4l.1, o4l.2.1, o4l.2.2))) (fun o4r => impl_heightsOf.l2 k o4r.1 o4r.2.1 o4r.2.2.1 o4r.2.2.2.1 o4r.2.2.2.2) o4) o3)) (some (.inr (a2)))
def impl_heightsOf (k : Nat) (p0 : GProgram) (p1 : Int) : Option ((List Int) × Int × Int) :=
  (idx p0.funcs p1).bind fun m1 => gd (0 ≤ (m1.code.length : Int) ∧ ((m1.code.length : Int)) * 8 ≤ 35184372088832 ∧ (m1.code.length : Int) ≤ 35184372088832) (gd (0 ≤ (m1.code.length : Int) ∧ ((m1.code.length : Int)) * 1 ≤ 35184372088832 ∧ (m1.code.length : Int) ≤ 35184372088832) ((impl_heightsOf.l1 k p0.funcs ((List.replicate m1.code.length 0)) ((List.replicate m1.code.length false)) m1.code ((m1.code.length : Int)) 0).bind fun o1 => (idx o1.2.1 0).bind fun m3 => (idx o1.2.2.1 0).bind fun m4 => (impl_heightsOf.l2 k o1.1 ((o1.2.1.set 0 0)) ((o1.2.2.1.set 0 true)) o1.2.2.2 0).bind fun o2 => Sum.elim (fun o2l => some (o2l.1, o2l.2.1, o2l.2.2)) (fun o2r => some (o2r, 0, 0)) o2))
def impl_prog_frameRight (p0 : Gprog) (p1 : GFrame) (p2 : Int) : Option (Bool) :=
  (impl_prog_stands p0 p1.func0 p1.pc p2).bind fun t1 => cond t1 ((idx p0.program.funcs p1.func0).bind fun m2 => cond ((((p1.locals.length : Int)) == m2.locals)) ((impl_prog_depth p0 p1.func0 p1.pc p2).bind fun t3 => some ((((p1.stack.length : Int)) == t3))) (some false)) (some false)
def impl_prog_runOf.l1 : Nat → Grun → (List GFrame) → Int → Int → Option (Grun)
  | 0, _, _, _, _ => none
  | k + 1, a1, a2, a3, a4 => cond ((decide (a4 < a3))) ((idx a2 a4).bind fun m2 => (impl_ownFrame m2).bind fun t3 => gd ((a1.frames.length + 1) * 64 ≤ 35184372088832 ∧ a1.frames.length + 1 ≤ 35184372088832) (impl_prog_runOf.l1 k ((⟨a1.k, (a1.frames ++ [t3]), a1.world⟩ : Grun)) a2 a3 ((IntKind.i64.wrap (a4 + 1))))) (some (a1))
def impl_prog_runOf (k : Nat) (p0 : Gprog) (p1 : GState) : Option (Grun) :=
  (impl_State_world k p1).bind fun t1 => (impl_prog_runOf.l1 k ((⟨p0, [], t1⟩ : Grun)) p1.frames ((p1.frames.length : Int)) 0).bind fun o1 => some o1
def spec_l01Src_l06Args.a2 (k : Nat) (a1 : Gl01Src) (a2 : (List GFunc)) (a3 : (List Int)) (a4 : Int) : Option (Gl01Src × (List GFunc) × (List Int) × Int × Bool) :=
  cond ((decide (a4 ≥ 0))) (some (a1, a2, a3, a4, (decide (a4 < ((a2.length : Int)))))) (some (a1, a2, a3, a4, false))
def spec_l01Src_l06Args.a4 (k : Nat) (a1 : Gl01Src) (a2 : (List Int)) (a3 : Int) : Option ((Gl01Src × (List Int) × Int) ⊕ (Gl01Src × (List Int))) :=
  cond ((decide (a3 > 0))) (cond ((decide (a3 < 9))) (some (.inl (a1, a2, a3))) (some (.inr (a1, a2)))) (some (.inr (a1, a2)))
def spec_l01Src_l06Args.l3 : Nat → Gl01Src → (List Int) → Int → Option (Gl01Src × (List Int))
  | 0, _, _, _ => none
  | k + 1, a1, a2, a3 => (spec_l01Src_l06Args.a4 k a1 a2 a3).bind fun o4 => Sum.elim (fun o4l => (spec_l01Src_l02Num k o4l.1).bind fun t2 => gd ((o4l.2.1.length + 1) * 8 ≤ 35184372088832 ∧ o4l.2.1.length + 1 ≤ 35184372088832) (spec_l01Src_l06Args.l3 k t2.2 ((o4l.2.1 ++ [t2.1])) ((IntKind.i64.wrap (o4l.2.2 - 1))))) (fun o4r => some (o4r.1, o4r.2)) o4
def spec_l01Src_l06Args.a1 (k : Nat) (a1 : Gl01Src) (a2 : (List GFunc)) (a3 : (List Int)) (a4 : Int) : Option (Gl01Src × (List Int)) :=
  (spec_l01Src_l06Args.a2 k a1 a2 a3 a4).bind fun o2 => cond o2.2.2.2.2 ((idx o2.2.1 o2.2.2.2.1).bind fun m1 => (spec_l01Src_l06Args.l3 k o2.1 o2.2.2.1 m1.args).bind fun o3 => some (o3.1, o3.2)) (some (o2.1, o2.2.2.1))
def spec_l01Src_l06Args (k : Nat) (p0 : Gl01Src) (p1 : GProgram) (p2 : Int) : Option ((List Int) × Gl01Src) :=
  (spec_l01Src_l06Args.a1 k p0 p1.funcs [] p2).bind fun o1 => some (o1.2, o1.1)
theorem gr18 : (∀ {k : Nat} {p0 : GState} {p1 : GState} {r : Bool}, impl_StateSame k p0 p1 = some r → Con Tryz.prog 13 [.agg [.d (.row .bor 4 (Rw (GFrame.cells .bor) p0.frames)), .d (.row .bor 1 (Rw (cL .bor 1 (cI .i64)) p0.heap)), .d (.row .bor 1 (Rw (cI .i64) p0.out)), V.int p0.fuel0, V.bool p0.done, V.int p0.value, V.int p0.trap], .agg [.d (.row .bor 4 (Rw (GFrame.cells .bor) p1.frames)), .d (.row .bor 1 (Rw (cL .bor 1 (cI .i64)) p1.heap)), .d (.row .bor 1 (Rw (cI .i64) p1.out)), V.int p1.fuel0, V.bool p1.done, V.int p1.value, V.int p1.trap]] [] (V.bool r) []) ∧
  (∀ {k : Nat} {p0 : GProgram} {p1 : Int} {r : (List Int) × Int × Int}, impl_heightsOf k p0 p1 = some r → Con Tryz.prog 112 [.agg [.d (.row .bor 3 (Rw (GFunc.cells .bor) p0.funcs))], V.int p1] [] (.tup [.d (.row .own 1 (Rw (cI .i64) r.1)), V.int r.2.1, V.int r.2.2]) []) ∧
  (∀ {p0 : Gprog} {p1 : GFrame} {p2 : Int} {r : Bool}, impl_prog_frameRight p0 p1 p2 = some r → Con Tryz.prog 72 [.d (.ptr .bor [.row .bor 3 (Rw (GFunc.cells .bor) p0.program.funcs), .row .bor 1 (Rw (cL .bor 1 (cI .i64)) p0.h)]), .agg [V.int p1.func0, V.int p1.pc, .d (.row .bor 1 (Rw (cI .i64) p1.locals)), .d (.row .bor 1 (Rw (cI .i64) p1.stack))], V.int p2] [] (V.bool r) []) ∧
  (∀ {k : Nat} {p0 : Gprog} {p1 : GState} {r : Grun}, impl_prog_runOf k p0 p1 = some r → Con Tryz.prog 33 [.d (.ptr .bor [.row .bor 3 (Rw (GFunc.cells .bor) p0.program.funcs), .row .bor 1 (Rw (cL .bor 1 (cI .i64)) p0.h)]), .agg [.d (.row .bor 4 (Rw (GFrame.cells .bor) p1.frames)), .d (.row .bor 1 (Rw (cL .bor 1 (cI .i64)) p1.heap)), .d (.row .bor 1 (Rw (cI .i64) p1.out)), V.int p1.fuel0, V.bool p1.done, V.int p1.value, V.int p1.trap]] [] (.d (.ptr .own [.ptr .bor [.row .bor 3 (Rw (GFunc.cells .bor) r.k.program.funcs), .row .bor 1 (Rw (cL .bor 1 (cI .i64)) r.k.h)], .row .own 4 (Rw (GFrame.cells .own) r.frames), .row .own 1 (Rw (cL .own 1 (cI .i64)) r.world.heap), .row .own 1 (Rw (cI .i64) r.world.out), .p (.int .i64 r.world.fuel0), .p (.bool r.world.done), .p (.int .i64 r.world.value), .p (.int .i64 r.world.trap)])) []) ∧
  (∀ {k : Nat} {p0 : Gl01Src} {p1 : GProgram} {p2 : Int} {r : (List Int) × Gl01Src}, spec_l01Src_l06Args k p0 p1 p2 = some r → Con Tryz.prog 106 [.mp 0 4 0 0, .agg [.d (.row .bor 3 (Rw (GFunc.cells .bor) p1.funcs))], V.int p2] [.o 4 [[.d (.row .bor 1 (Rw (cI .u8) p0.b)), V.int p0.at0, .d (.p (.int .u64 p0.mix)), V.int p0.size]]] (.d (.row .own 1 (Rw (cI .i64) r.1))) [.o 4 [[.d (.row .bor 1 (Rw (cI .u8) r.2.b)), V.int r.2.at0, .d (.p (.int .u64 r.2.mix)), V.int r.2.size]]]) := by
  refine ⟨?_, ?_, ?_, ?_, ?_⟩
  all_goals intros
  all_goals rename_i h
  all_goals first
    | (with_reducible refine isf 13 ?_
       refine csw Tryz.func13 Tryz.call13 (by simp [Tryz.ntmps13]) (h := ?_)
       refine mkf 13 fun hF => ?_
       rw [Tryz.ntmps13, Tryz.results13]
       unfold impl_StateSame at h)
    | (with_reducible refine isf 112 ?_
       refine csw Tryz.func112 Tryz.call112 (by simp [Tryz.ntmps112]) (h := ?_)
       refine mkf 112 fun hF => ?_
       rw [Tryz.ntmps112, Tryz.results112]
       unfold impl_heightsOf at h)
    | (with_reducible refine isf 72 ?_
       refine csw Tryz.func72 Tryz.call72 (by simp [Tryz.ntmps72]) (h := ?_)
       refine mkf 72 fun hF => ?_
       rw [Tryz.ntmps72, Tryz.results72]
       unfold impl_prog_frameRight at h)
    | (with_reducible refine isf 33 ?_
       refine csw Tryz.func33 Tryz.call33 (by simp [Tryz.ntmps33]) (h := ?_)
       refine mkf 33 fun hF => ?_
       rw [Tryz.ntmps33, Tryz.results33]
       unfold impl_prog_runOf at h)
    | (with_reducible refine isf 106 ?_
       refine csw Tryz.func106 Tryz.call106 (by simp [Tryz.ntmps106]) (h := ?_)
       refine mkf 106 fun hF => ?_
       rw [Tryz.ntmps106, Tryz.results106]
       unfold spec_l01Src_l06Args at h)
  all_goals (replace h := Yes.mk h; simp only [entryS, entryO, Nat.reduceAdd, List.length_nil, List.length_cons])
  repeat' (first
 | ((with_reducible refine fi 33 ?_ ?_); (focus (with_reducible assumption))
    first
    | (with_reducible refine here_reg (i := 5) ?_
       refine sw_gh ?_
       with_reducible apply gh_nameCell 384 1
       · simp only [lkd, lkb, reduceCtorEq, Nat.reduceEqDiff]; rfl
       · rfl
       simp only [List.set_cons_zero, List.set_cons_succ, Nat.reduceAdd, Rw_length]
       refine gh_sw ?_))
 | (with_reducible (first | refine sw_reg ?_ | refine sw_ret ?_ | refine sw_skip ?_ | refine sw_block ?_ | refine sw_exit ?_ | refine seqQ_normal ?_ | refine blockQ_normal ?_ | refine blockQ_ret ?_ | refine blockQ_this ?_ | refine blockQ_other (by decide) ?_ | refine regW_nil ?_ | refine sw_draw mixed ?_ | refine retQ_ret ?_ | refine retQ_normal ?_))
 | (with_reducible refine regD_nil ?_
    refine ⟨by kernel_rfl, ?_⟩)
 | (revert h; (first | ((with_reducible refine idx_elim ?_); intro m hm1 hm2 hm3 h; (try (simp only [Int.reduceToNat] at hm3)); (try (revert hm3; (with_reducible apply same_elim); (focus (with_reducible assumption)); rintro rfl)); (try (simp only [List.length_set, List.length_cons, List.length_nil, List.length_replicate, Nat.reduceAdd, Int.cast_ofNat_Int, Nat.zero_add, List.length_append] at hm2))) | (with_reducible refine sidx_elim ?_; intro m hm1 hm3 h) | (with_reducible refine gd_elim ?_; intro hg h; try (have hg2 := hg.2; have hg := hg.1; (try (simp only [Nat.reduceLeDiff] at hg2)); (try (revert hg2; (with_reducible refine toNat_elim hg ?_); intro hg2 hg4)); try (have hg3 := hg2.2; have hg2 := hg2.1; (try (simp only [Nat.reduceLeDiff] at hg3))))) | (with_reducible refine condt_elim ?_ ?_; (focus (with_reducible assumption)); intro h) | (with_reducible refine condf_elim ?_ ?_; (focus (with_reducible assumption)); intro h)))
 | ((with_reducible first | refine pnR ?_ | refine pnE ?_ | refine pmR ?_ | refine pmE ?_)
    obtain rfl := h.get
    have h := hK
    clear hK
    (try (simp only [Sum.elim_inl, Sum.elim_inr] at h)))
 | ((with_reducible refine fi 112 ?_ ?_); (focus (with_reducible assumption))
    first
    | (with_reducible refine here_join (a := (.seq (.region 26 _ _) _)) (b := (.seq (.region 28 _ _) _)) ?_
       revert h
       with_reducible refine bind_elimY ?_
       intro o5 h hK
       unfold impl_heightsOf.a5 at h
       refine sw_join (ι := (List GFunc) × (List Int) × (List Bool) × GI2 × (List Int) × (List GI2) × Int × Int × Int × Int × Int × Int) 50000000 (fun x => [(.s 2, some (.v (.mp 0 1 0 0))), (.s 7, some (.v (.d (.row .bor 2 (Rw GI2.cells x.2.2.2.2.2.1))))), (.s 8, some (.v (.sl 896 1 0 x.2.1.length))), (.s 9, some (.v (.sl 1152 1 0 x.2.2.1.length))), (.s 11, some (.v (V.int x.2.2.2.2.2.2.1))), (.s 12, some (.v (.mp 20001088 2 0 0))), (.s 13, some (.v (V.int x.2.2.2.2.2.2.2.1))), (.s 14, some (.v (V.int x.2.2.2.2.2.2.2.2.1))), (.s 16, some (.v (V.int x.2.2.2.2.2.2.2.2.2.1))), (.s 82, some (.v (.sl 30000256 1 0 x.2.2.2.2.1.length))), (.s 83, some (.v (V.int x.2.2.2.2.2.2.2.2.2.2.1))), (.s 84, some (.v (V.int x.2.2.2.2.2.2.2.2.2.2.2))), (.r 0, some (.o 1 [[.d (.row .bor 3 (Rw (GFunc.cells .bor) x.1))]])), (.r 896, some (.o 1 (dd (Rw (cI .i64) x.2.1)))), (.r 1152, some (.o 1 (dd (Rw cB x.2.2.1)))), (.r 20001088, some (.o 2 [[V.int x.2.2.2.1.a, V.int x.2.2.2.1.b]])), (.r 30000256, some (.o 1 (dd (Rw (cI .i64) x.2.2.2.2.1))))]) (fun x => Yes (some (.inr x)) o5) ?_ ?_
       rotate_left
       rintro ⟨b1, b2, b3, b4, b5, b6, b7, b8, b9, b10, b11, b12⟩ h
       obtain rfl := h.get
       have h := hK
       clear hK
       (try (simp only [Sum.elim_inl, Sum.elim_inr] at h))
       refine sw_gh ?_
       refine gh_sw ?_)
    | (with_reducible refine here_loop (c := (.seq (.region 22 _ _) _)) ?_
       revert h
       with_reducible refine bind_elimY ?_
       intro o4 h hK
       refine lpA (β := (List GFunc) × (List Int) × (List Bool) × GI2 × (List Int) × (List GI2) × Int × Int × Int × Int × Int) 40000000 (fun x => [(.s 2, some (.v (.mp 0 1 0 0))), (.s 7, some (.v (.d (.row .bor 2 (Rw GI2.cells x.2.2.2.2.2.2.1))))), (.s 8, some (.v (.sl 896 1 0 x.2.2.1.length))), (.s 9, some (.v (.sl 1152 1 0 x.2.2.2.1.length))), (.s 11, some (.v (V.int x.2.2.2.2.2.2.2.1))), (.s 12, some (.v (.mp 20001088 2 0 0))), (.s 13, some (.v (V.int x.2.2.2.2.2.2.2.2.1))), (.s 14, some (.v (V.int x.2.2.2.2.2.2.2.2.2.1))), (.s 82, some (.v (.sl 30000256 1 0 x.2.2.2.2.2.1.length))), (.s 83, some (.v (V.int x.2.2.2.2.2.2.2.2.2.2.1))), (.s 84, some (.v (V.int x.2.2.2.2.2.2.2.2.2.2.2))), (.r 0, some (.o 1 [[.d (.row .bor 3 (Rw (GFunc.cells .bor) x.2.1))]])), (.r 896, some (.o 1 (dd (Rw (cI .i64) x.2.2.1)))), (.r 1152, some (.o 1 (dd (Rw cB x.2.2.2.1)))), (.r 20001088, some (.o 2 [[V.int x.2.2.2.2.1.a, V.int x.2.2.2.2.1.b]])), (.r 30000256, some (.o 1 (dd (Rw (cI .i64) x.2.2.2.2.2.1))))]) (fun x => Yes (impl_heightsOf.l4 x.1 x.2.1 x.2.2.1 x.2.2.2.1 x.2.2.2.2.1 x.2.2.2.2.2.1 x.2.2.2.2.2.2.1 x.2.2.2.2.2.2.2.1 x.2.2.2.2.2.2.2.2.1 x.2.2.2.2.2.2.2.2.2.1 x.2.2.2.2.2.2.2.2.2.2.1 x.2.2.2.2.2.2.2.2.2.2.2) o4) (_, _, _, _, _, _, _, _, _, _, _, _) h ?_
       rintro ⟨_ | k, a1, a2, a3, a4, a5, a6, a7, a8, a9, a10, a11⟩ h
       · simp only [impl_heightsOf.l4] at h; exact h.none
       simp only [impl_heightsOf.l4] at h
   )
    | (with_reducible refine here_join (a := (.seq (.region 18 _ _) _)) (b := (.seq (.region 20 _ _) _)) ?_
       revert h
       with_reducible refine bind_elimY ?_
       intro o3 h hK
       unfold impl_heightsOf.a3 at h
       refine sw_join (ι := (List GFunc) × (List Int) × (List Bool) × GI2 × (List GI2) × Int × Int) 30000000 (fun x => [(.s 2, some (.v (.mp 0 1 0 0))), (.s 7, some (.v (.d (.row .bor 2 (Rw GI2.cells x.2.2.2.2.1))))), (.s 8, some (.v (.sl 896 1 0 x.2.1.length))), (.s 9, some (.v (.sl 1152 1 0 x.2.2.1.length))), (.s 11, some (.v (V.int x.2.2.2.2.2.1))), (.s 12, some (.v (.mp 20001088 2 0 0))), (.s 13, some (.v (V.int x.2.2.2.2.2.2))), (.r 0, some (.o 1 [[.d (.row .bor 3 (Rw (GFunc.cells .bor) x.1))]])), (.r 896, some (.o 1 (dd (Rw (cI .i64) x.2.1)))), (.r 1152, some (.o 1 (dd (Rw cB x.2.2.1)))), (.r 20001088, some (.o 2 [[V.int x.2.2.2.1.a, V.int x.2.2.2.1.b]]))]) (fun x => Yes (some (.inr x)) o3) ?_ ?_
       rotate_left
       rintro ⟨b1, b2, b3, b4, b5, b6, b7⟩ h
       obtain rfl := h.get
       have h := hK
       clear hK
       (try (simp only [Sum.elim_inl, Sum.elim_inr] at h))
       refine sw_gh ?_
       refine gh_sw ?_)
    | (with_reducible refine here_loop (c := (.seq (.seq (.region 12 _ _) _) _)) ?_
       revert h
       with_reducible refine bind_elimY ?_
       intro o2 h hK
       refine lpA (β := (List GFunc) × (List Int) × (List Bool) × (List GI2) × Int) 20000000 (fun x => [(.s 2, some (.v (.mp 0 1 0 0))), (.s 7, some (.v (.d (.row .bor 2 (Rw GI2.cells x.2.2.2.2.1))))), (.s 8, some (.v (.sl 896 1 0 x.2.2.1.length))), (.s 9, some (.v (.sl 1152 1 0 x.2.2.2.1.length))), (.s 11, some (.v (V.int x.2.2.2.2.2))), (.r 0, some (.o 1 [[.d (.row .bor 3 (Rw (GFunc.cells .bor) x.2.1))]])), (.r 896, some (.o 1 (dd (Rw (cI .i64) x.2.2.1)))), (.r 1152, some (.o 1 (dd (Rw cB x.2.2.2.1))))]) (fun x => Yes (impl_heightsOf.l2 x.1 x.2.1 x.2.2.1 x.2.2.2.1 x.2.2.2.2.1 x.2.2.2.2.2) o2) (_, _, _, _, _, _) h ?_
       rintro ⟨_ | k, a1, a2, a3, a4, a5⟩ h
       · simp only [impl_heightsOf.l2] at h; exact h.none
       simp only [impl_heightsOf.l2] at h
   )
    | (with_reducible refine here_loop (c := (.seq (.region 5 _ _) _)) ?_
       revert h
       with_reducible refine bind_elimY ?_
       intro o1 h hK
       refine lpA (β := (List GFunc) × (List Int) × (List Bool) × (List GI2) × Int × Int) 10000000 (fun x => [(.s 2, some (.v (.mp 0 1 0 0))), (.s 7, some (.v (.d (.row .bor 2 (Rw GI2.cells x.2.2.2.2.1))))), (.s 8, some (.v (.sl 896 1 0 x.2.2.1.length))), (.s 9, some (.v (.sl 1152 1 0 x.2.2.2.1.length))), (.s 30, some (.v (V.int x.2.2.2.2.2.1))), (.s 31, some (.v (V.int x.2.2.2.2.2.2))), (.r 0, some (.o 1 [[.d (.row .bor 3 (Rw (GFunc.cells .bor) x.2.1))]])), (.r 896, some (.o 1 (dd (Rw (cI .i64) x.2.2.1)))), (.r 1152, some (.o 1 (dd (Rw cB x.2.2.2.1))))]) (fun x => Yes (impl_heightsOf.l1 x.1 x.2.1 x.2.2.1 x.2.2.2.1 x.2.2.2.2.1 x.2.2.2.2.2.1 x.2.2.2.2.2.2) o1) (_, _, _, _, _, _, _) h ?_
       rintro ⟨_ | k, a1, a2, a3, a4, a5, a6⟩ h
       · simp only [impl_heightsOf.l1] at h; exact h.none
       simp only [impl_heightsOf.l1] at h
   ))
 | ((with_reducible refine fi 33 ?_ ?_); (focus (with_reducible assumption))
    first
    | (with_reducible refine here_loop (c := (.seq (.region 3 _ _) _)) ?_
       revert h
       with_reducible refine bind_elimY ?_
       intro o1 h hK
       refine sw_gh ?_
       (try (apply gh_conv 384; (focus (simp only [lkd, lkb, reduceCtorEq, Nat.reduceEqDiff]; try rfl)); (focus (apply All2.cons; (focus (apply All2.cons; (focus (exact .same)); apply All2.cons; (focus (first | exact Conv1.nil (m := .own) (s := 4) | exact .same)); apply All2.cons; (focus (first | exact Conv1.nil (m := .own) (s := 1) | exact .same)); apply All2.cons; (focus (first | exact Conv1.nil (m := .own) (s := 1) | exact .same)); apply All2.cons; (focus (exact .same)); apply All2.cons; (focus (exact .same)); apply All2.cons; (focus (exact .same)); apply All2.cons; (focus (exact .same)); exact .nil)); exact .nil))))
       (try (apply gh_resObj 384; (focus (simp only [lkd, lkb, reduceCtorEq, Nat.reduceEqDiff]; try rfl)); simp only [rxb, Nat.reduceAdd, Nat.reduceLeDiff, rxd, lkd, lkb, reduceCtorEq, Nat.reduceEqDiff, *, mmb, Gl01Src_Dset, GI2_Dset, GFunc_Dset, GProgram_Dset, GFrame_Dset, GState_Dset, Gprog_Dset, Gworld_Dset, LcIi64_Dset]))
       refine gh_sw ?_
       refine lpA (β := Grun × (List GFrame) × Int × Int) 10000000 (fun x => [(.s 5, some (.v (.mp 384 8 0 0))), (.s 14, some (.v (.d (.row .bor 4 (Rw (GFrame.cells .bor) x.2.2.1))))), (.s 15, some (.v (V.int x.2.2.2.1))), (.s 16, some (.v (V.int x.2.2.2.2))), (.r 384, some (.o 8 [[.d (.ptr .bor [.row .bor 3 (Rw (GFunc.cells .bor) x.2.1.k.program.funcs), .row .bor 1 (Rw (cL .bor 1 (cI .i64)) x.2.1.k.h)]), .d (.row .own 4 (Rw (GFrame.cells .own) x.2.1.frames)), .d (.row .own 1 (Rw (cL .own 1 (cI .i64)) x.2.1.world.heap)), .d (.row .own 1 (Rw (cI .i64) x.2.1.world.out)), V.int x.2.1.world.fuel0, V.bool x.2.1.world.done, V.int x.2.1.world.value, V.int x.2.1.world.trap]]))]) (fun x => Yes (impl_prog_runOf.l1 x.1 x.2.1 x.2.2.1 x.2.2.2.1 x.2.2.2.2) o1) (_, _, _, _, _) h ?_
       rintro ⟨_ | k, a1, a2, a3, a4⟩ h
       · simp only [impl_prog_runOf.l1] at h; exact h.none
       simp only [impl_prog_runOf.l1] at h
   )
    | (with_reducible refine here_next (N0 := 10000000) ?_
       (try (apply gh_conv 384; (focus (simp only [lkd, lkb, reduceCtorEq, Nat.reduceEqDiff]; try rfl)); (focus (apply All2.cons; (focus (apply All2.cons; (focus (exact .same)); apply All2.cons; (focus (first | exact Conv1.nil (m := .own) (s := 4) | exact .same)); apply All2.cons; (focus (first | exact Conv1.nil (m := .own) (s := 1) | exact .same)); apply All2.cons; (focus (first | exact Conv1.nil (m := .own) (s := 1) | exact .same)); apply All2.cons; (focus (exact .same)); apply All2.cons; (focus (exact .same)); apply All2.cons; (focus (exact .same)); apply All2.cons; (focus (exact .same)); exact .nil)); exact .nil))))
       (try (apply gh_resObj 384; (focus (simp only [lkd, lkb, reduceCtorEq, Nat.reduceEqDiff]; try rfl)); simp only [rxb, Nat.reduceAdd, Nat.reduceLeDiff, rxd, lkd, lkb, reduceCtorEq, Nat.reduceEqDiff, *, mmb, Gl01Src_Dset, GI2_Dset, GFunc_Dset, GProgram_Dset, GFrame_Dset, GState_Dset, Gprog_Dset, Gworld_Dset, LcIi64_Dset]))
       refine nxA (_, _, _, _, _) h))
 | ((with_reducible refine fi 106 ?_ ?_); (focus (with_reducible assumption))
    first
    | (with_reducible refine here_join (a := (.seq (.region 4 _ _) _)) (b := (.seq (.block 1 _) _)) ?_
       revert h
       with_reducible refine bind_elimY ?_
       intro o4 h hK
       unfold spec_l01Src_l06Args.a4 at h
       refine sw_join (ι := Gl01Src × (List Int) × Int) 40000000 (fun x => [(.s 0, some (.v (.mp 0 4 0 0))), (.s 7, some (.v (.sl 30000000 1 0 x.2.1.length))), (.s 8, some (.v (V.int x.2.2))), (.r 0, some (.o 4 [[.d (.row .bor 1 (Rw (cI .u8) x.1.b)), V.int x.1.at0, .d (.p (.int .u64 x.1.mix)), V.int x.1.size]])), (.r 30000000, some (.o 1 (dd (Rw (cI .i64) x.2.1))))]) (fun x => Yes (some (.inl x)) o4) ?_ ?_
       rotate_left
       rintro ⟨b1, b2, b3⟩ h
       obtain rfl := h.get
       have h := hK
       clear hK
       (try (simp only [Sum.elim_inl, Sum.elim_inr] at h))
       refine sw_gh ?_
       refine gh_sw ?_)
    | (with_reducible refine here_loop (c := (.seq (.seq (.region 4 _ _) _) _)) ?_
       revert h
       with_reducible refine bind_elimY ?_
       intro o3 h hK
       refine sw_gh ?_
       refine gh_resSlot 7 ?_
       simp only [rxb, Nat.reduceAdd, Nat.reduceLeDiff, rxd, lkd, lkb, reduceCtorEq, Nat.reduceEqDiff, *]
       refine gh_sw ?_
       refine lpA (β := Gl01Src × (List Int) × Int) 30000000 (fun x => [(.s 0, some (.v (.mp 0 4 0 0))), (.s 7, some (.v (.d (.row .own 1 (Rw (cI .i64) x.2.2.1))))), (.s 8, some (.v (V.int x.2.2.2))), (.r 0, some (.o 4 [[.d (.row .bor 1 (Rw (cI .u8) x.2.1.b)), V.int x.2.1.at0, .d (.p (.int .u64 x.2.1.mix)), V.int x.2.1.size]]))]) (fun x => Yes (spec_l01Src_l06Args.l3 x.1 x.2.1 x.2.2.1 x.2.2.2) o3) (_, _, _, _) h ?_
       rintro ⟨_ | k, a1, a2, a3⟩ h
       · simp only [spec_l01Src_l06Args.l3] at h; exact h.none
       simp only [spec_l01Src_l06Args.l3] at h
       refine sw_gh ?_
       refine gh_nameSlot 7 ?_
       simp only [rxb, Nat.reduceAdd, Nat.reduceLeDiff, rxd, lkd, lkb, reduceCtorEq, Nat.reduceEqDiff, Nat.reduceAdd]
       refine gh_sw ?_
   )
    | (with_reducible refine here_next (N0 := 30000000) ?_
       refine gh_resSlot 7 ?_
       simp only [rxb, Nat.reduceAdd, Nat.reduceLeDiff, rxd, lkd, lkb, reduceCtorEq, Nat.reduceEqDiff, *]
       refine nxA (_, _, _, _) h)
    | (with_reducible refine here_join (a := (.region 2 _ _)) (b := (.cond (.tmp 18) _ _)) ?_
       revert h
       with_reducible refine bind_elimY ?_
       intro o2 h hK
       unfold spec_l01Src_l06Args.a2 at h
       refine sw_join (ι := Gl01Src × (List GFunc) × (List Int) × Int × Bool) 20000000 (fun x => [(.s 0, some (.v (.mp 0 4 0 0))), (.s 2, some (.v (V.int x.2.2.2.1))), (.s 4, some (.v (.mp 1 1 0 0))), (.s 7, some (.v (.sl 193 1 0 x.2.2.1.length))), (.s 18, some (.v (V.bool x.2.2.2.2))), (.r 0, some (.o 4 [[.d (.row .bor 1 (Rw (cI .u8) x.1.b)), V.int x.1.at0, .d (.p (.int .u64 x.1.mix)), V.int x.1.size]])), (.r 1, some (.o 1 [[.d (.row .bor 3 (Rw (GFunc.cells .bor) x.2.1))]])), (.r 193, some (.o 1 (dd (Rw (cI .i64) x.2.2.1))))]) (fun x => Yes (some (x)) o2) ?_ ?_
       rotate_left
       rintro ⟨b1, b2, b3, b4, b5⟩ h
       obtain rfl := h.get
       have h := hK
       clear hK
       (try (simp only [Sum.elim_inl, Sum.elim_inr] at h))
       refine sw_gh ?_
       refine gh_sw ?_)
    | (with_reducible refine here_join (a := (.seq (.region 2 _ _) _)) (b := (.seq (.region 7 _ _) _)) ?_
       revert h
       with_reducible refine bind_elimY ?_
       intro o1 h hK
       unfold spec_l01Src_l06Args.a1 at h
       refine sw_join (ι := Gl01Src × (List Int)) 10000000 (fun x => [(.s 7, some (.v (.d (.row .own 1 (Rw (cI .i64) x.2))))), (.r 0, some (.o 4 [[.d (.row .bor 1 (Rw (cI .u8) x.1.b)), V.int x.1.at0, .d (.p (.int .u64 x.1.mix)), V.int x.1.size]]))]) (fun x => Yes (some (x)) o1) ?_ ?_
       rotate_left
       rintro ⟨b1, b2⟩ h
       obtain rfl := h.get
       have h := hK
       clear hK
       (try (simp only [Sum.elim_inl, Sum.elim_inr] at h))
       refine sw_gh ?_
       refine gh_nameSlot 7 ?_
       simp only [rxb, Nat.reduceAdd, Nat.reduceLeDiff, rxd, lkd, lkb, reduceCtorEq, Nat.reduceEqDiff, Nat.reduceAdd]
       refine gh_sw ?_)
    | (with_reducible refine here_meet (N0 := 10000000) ?_
       refine gh_resSlot 7 ?_
       simp only [rxb, Nat.reduceAdd, Nat.reduceLeDiff, rxd, lkd, lkb, reduceCtorEq, Nat.reduceEqDiff, *]
       refine mtA (_, _) h))
 | (with_reducible refine here_next ?_
    first | refine nxA (_, _, _, _, _, _) h | refine nxA (_, _, _, _, _, _, _) h | refine nxA (_, _, _, _, _, _, _, _, _, _, _, _) h)
 | (with_reducible refine here_meet ?_
    first | refine mtA (_, _, _) h | refine mtA (_, _, _, _, _) h | refine mtA (_, _, _, _, _, _, _) h | refine mtA (_, _, _, _, _, _, _, _, _, _, _, _) h)
 | with_reducible refine sw_seq ?_
 | with_reducible refine seqQ_ret ?_
 | with_reducible refine seqQ_exit ?_
 | ((with_reducible refine fi 112 ?_ ?_); (focus (with_reducible assumption))
    first
    | (with_reducible refine gh_nilRow 4 .own 1 ?_ ?_
       · simp only [lkd, lkb, reduceCtorEq, Nat.reduceEqDiff]; done
       skip))
 | ((with_reducible refine fi 106 ?_ ?_); (focus (with_reducible assumption))
    first
    | (with_reducible refine gh_nilRow 6 .own 1 ?_ ?_
       · simp only [lkd, lkb, reduceCtorEq, Nat.reduceEqDiff]; done
       skip))
 | ((with_reducible refine wp_ite ?_ ?_)
    all_goals (intro hc; (try (simp only [Bool.not_eq_true, Bool.not_eq_false] at hc)); simp only [hc]))
 | (with_reducible refine rskip (hs := ?_) (h2 := ?_)
    · simp only [lkd, lkb, reduceCtorEq, Nat.reduceEqDiff]; done)
 | (with_reducible refine ryes (hs := ?_) (h := ?_)
    · simp only [lkd, lkb, reduceCtorEq, Nat.reduceEqDiff]; done)
 | (with_reducible refine rno (hs := ?_) (h := ?_)
    · simp only [lkd, lkb, reduceCtorEq, Nat.reduceEqDiff, Bool.not_true, Bool.not_false]; done)
 | (with_reducible apply regW_guardN
    · simp only [dstOk, Nat.reduceLT]
    · rfl
    · simp only [lkd, lkb, reduceCtorEq, Nat.reduceEqDiff]; rfl
    all_goals (intro hc; (try (simp only [Bool.not_true, Bool.not_false] at hc))))
 | (with_reducible apply sw_cond
    · simp only [lkd, lkb, reduceCtorEq, Nat.reduceEqDiff]; rfl
    all_goals (intro hc; try (cases hc; done)))
 | ((first
     | ((with_reducible refine gh_ret ?_)
        revert h
        with_reducible refine some_elim ?_
        rintro rfl)
     | (with_reducible refine here_call ?_
        revert h
        with_reducible refine bind_elim ?_
        intro t ht h
        (first
          | ((first
              | ((with_reducible refine here_call (f := 42) ?_); refine call_obj [] (c_slices_EqualFunc_impl_Frame_impl_Frame_impl_Frame_impl_Frame_vG2sameFrame ht) (by decide) ?_ ?_)
              | ((with_reducible refine here_call (f := 134) ?_); refine call_obj [0] (c_spec_l01Src_l02Num ht) (by decide) ?_ ?_))
             · first | exact .inl rfl | (refine .inr ⟨?_, ?_⟩; (focus (first | rfl | (simp only [nbd, nbb, Gl01Src_nb, GI2_nb, GFunc_nb, GProgram_nb, GFrame_nb, GState_nb, Gprog_nb, Gworld_nb, LcIi64_nb]; done))); (focus (simp [C.nb, V.nbLL, V.nbL, V.nb, D.nb]; done)))
             simp only [obd, hyb, hyd, Gl01Src_lend, GI2_lend, GFunc_lend, GProgram_lend, GFrame_lend, GState_lend, Gprog_lend, Gworld_lend, LcIi64_lend, lkd, lkb, reduceCtorEq, Nat.reduceEqDiff, Prog.wp, Prog.wp_bind, Prog.bind, Prog.ofO, List.take_of_length_le, *])
          | ((first
              | ((with_reducible refine here_call (f := 44) ?_); refine call_dataE (c_impl_sameLists ht) ?_ rfl ?_)
              | ((with_reducible refine here_call (f := 45) ?_); refine call_dataE (c_slices_Equal_int64_int64 ht) ?_ rfl ?_)
              | ((with_reducible refine here_call (f := 78) ?_); refine call_dataE (c_impl_Takes ht) ?_ rfl ?_)
              | ((with_reducible refine here_call (f := 82) ?_); refine call_dataE (c_impl_Puts ht) ?_ rfl ?_)
              | ((with_reducible refine here_call (f := 138) ?_); refine call_dataE (c_impl_next ht) ?_ rfl ?_)
              | ((with_reducible refine here_call (f := 113) ?_); refine call_dataE (c_impl_prog_stands ht) ?_ rfl ?_)
              | ((with_reducible refine here_call (f := 114) ?_); refine call_dataE (c_impl_prog_depth ht) ?_ rfl ?_)
              | ((with_reducible refine here_call (f := 73) ?_); refine call_dataE (c_impl_State_world ht) ?_ rfl ?_)
              | ((with_reducible refine here_call (f := 74) ?_); refine call_dataE (c_impl_ownFrame ht) ?_ rfl ?_))
             · first | rfl | (simp; done))))
     | (with_reducible (first | refine ropD (h := ?_) | refine ropW (h := ?_))
        intro k hk)
     | skip)
    simp only [bn, lkb, evb, evd, Value.oneCell', setSeg, reduceCtorEq, Nat.reduceAdd, Nat.reduceMul, Nat.reduceSub, Nat.reduceLT, Nat.reduceLeDiff, Nat.reduceEqDiff, Int.reduceNeg, Int.reduceToNat, ty2, ty3, ty4, ty5, ty6, ty22, ty23, ty25, ty26, ty27, ty28, ty30, ty56, ty58, ty63, ty85, ty92, ty94, ty98, ty102, ty104, ty109, ty138, ty140, ty154, GFrame.cells, GFunc.cells, GI2.cells, GProgram.cells, GState.cells, Gl01Src.cells, Gprog.cells, Gworld.cells, cI, cB, cS, cL, Gl01Src_e, GI2_e, GFunc_e, GProgram_e, GFrame_e, GState_e, Gprog_e, Gworld_e, LcIi64_e, buildP, buildSliceP, putParts, structPlaces, chunks, List.replicate, List.flatten_nil, List.flatten_cons, Option.bind_some, bb, GFrame_b, nilEqP, ne_eq, not_false_eq_true, not_true_eq_false, *]
    try (refine hk.use _ _ _ _ ?_; clear hk k))
 | fail)
  all_goals (try rfl)
  all_goals (try (simp; done))
  all_goals (try (simp_all; done))
def c_impl_StateSame := @And.left _ _ gr18
def c_impl_heightsOf := @And.left _ _ (@And.right _ _ gr18)
def c_impl_prog_frameRight := @And.left _ _ (@And.right _ _ (@And.right _ _ gr18))
def c_impl_prog_runOf := @And.left _ _ (@And.right _ _ (@And.right _ _ (@And.right _ _ gr18)))
def c_spec_l01Src_l06Args := (@And.right _ _ (@And.right _ _ (@And.right _ _ (@And.right _ _ gr18))))
set_option linter.defProp false
def spec_l04Func.a1 (k : Nat) (a1 : (List GFunc)) (a2 : GI3) (a3 : Int) (a4 : Int) (a5 : (List GI2)) (a6 : Int) : Option ((GI3) ⊕ ((List GFunc) × GI3 × Int × Int × (List GI2) × Int)) :=
  cond ((decide (a3 < 0))) (some (.inl ((⟨a6, 0, 1⟩ : GI3)))) (cond ((decide (a3 > 4))) (some (.inl ((⟨a6, 0, 1⟩ : GI3)))) (cond ((decide (a4 < a3))) (some (.inl ((⟨a6, 0, 1⟩ : GI3)))) (cond ((decide (a4 > 8))) (some (.inl ((⟨a6, 0, 1⟩ : GI3)))) (cond ((decide (((a5.length : Int)) < 1))) (some (.inl ((⟨a6, 0, 1⟩ : GI3)))) (cond ((decide (((a5.length : Int)) > 60))) (some (.inl ((⟨a6, 0, 1⟩ : GI3)))) (some (.inr (a1, a2, a3, a4, a5, a6))))))))
def spec_l04Func.l2 : Nat → (List GFunc) → GI3 → Int → Int → (List GI2) → Int → Int → Option ((GI3) ⊕ ((List GFunc) × GI3 × Int))
  | 0, _, _, _, _, _, _, _ => none
  | k + 1, a1, a2, a3, a4, a5, a6, a7 => cond ((decide (a7 < ((a5.length : Int))))) ((idx a5 a7).bind fun m2 => (spec_InsRight k ((⟨a1⟩ : GProgram)) a6 m2).bind fun t3 => cond ((!t3)) (some (.inl ((⟨a6, a7, 1⟩ : GI3)))) (spec_l04Func.l2 k a1 a2 a3 a4 a5 a6 ((IntKind.i64.wrap (a7 + 1))))) (some (.inr (a1, a2, a6)))
def spec_l04Func (k : Nat) (p0 : GProgram) (p1 : Int) : Option (GI3) :=
  (idx p0.funcs p1).bind fun m1 => (spec_l04Func.a1 k p0.funcs ((⟨0, 0, 0⟩ : GI3)) m1.args m1.locals m1.code p1).bind fun o1 => Sum.elim (fun o1l => some o1l) (fun o1r => (spec_l04Func.l2 k o1r.1 o1r.2.1 o1r.2.2.1 o1r.2.2.2.1 o1r.2.2.2.2.1 o1r.2.2.2.2.2 0).bind fun o2 => Sum.elim (fun o2l => some o2l) (fun o2r => (spec_l04Heights k ((⟨o2r.1⟩ : GProgram)) o2r.2.2).bind fun t4 => some t4.2) o2) o1
def spec_l06Stands.a1 (k : Nat) (a1 : (List GFunc)) (a2 : Int) (a3 : Int) (a4 : Int) (a5 : Int) (a6 : Int) : Option ((Bool) ⊕ ((List GFunc) × Int × Int × Int × Int)) :=
  cond ((decide (a2 < 0))) (some (.inl (false))) (cond ((decide (a2 ≥ ((a1.length : Int))))) (some (.inl (false))) ((idx a1 a2).bind fun m1 => cond ((a4 != m1.locals)) (some (.inl (false))) (cond ((decide (a3 < 0))) (some (.inl (false))) (cond ((decide (a3 ≥ ((m1.code.length : Int))))) (some (.inl (false))) (some (.inr (a1, a2, a3, a5, a6)))))))
def spec_l06Stands (k : Nat) (p0 : GProgram) (p1 : Int) (p2 : Int) (p3 : Int) (p4 : Int) (p5 : Int) : Option (Bool) :=
  (spec_l06Stands.a1 k p0.funcs p1 p2 p3 p4 p5).bind fun o1 => Sum.elim (fun o1l => some o1l) (fun o1r => (spec_l04Heights k ((⟨o1r.1⟩ : GProgram)) o1r.2.1).bind fun t2 => cond ((decide (o1r.2.2.2.2 < 0))) ((idx t2.1 o1r.2.2.1).bind fun m3 => cond ((decide (m3 ≥ 0))) (some ((o1r.2.2.2.1 == m3))) (some false)) (cond ((decide (o1r.2.2.1 > 0))) ((idx t2.1 ((IntKind.i64.wrap (o1r.2.2.1 - 1)))).bind fun m4 => cond ((decide (m4 ≥ 0))) ((idx o1r.1 o1r.2.1).bind fun m5 => (idx m5.code ((IntKind.i64.wrap (o1r.2.2.1 - 1)))).bind fun m6 => cond (((m6.a == 32) && (m6.b == o1r.2.2.2.2))) ((idx t2.1 o1r.2.2.1).bind fun m7 => some ((o1r.2.2.2.1 == ((IntKind.i64.wrap (m7 - 1)))))) (some false)) (some false)) (some false))) o1
theorem fl98_spec_l06Stands : flatK Tryz.prog 98 = some [0, 0] := by kernel_rfl
theorem gr19 : (∀ {k : Nat} {p0 : GProgram} {p1 : Int} {r : GI3}, spec_l04Func k p0 p1 = some r → Con Tryz.prog 108 [.agg [.d (.row .bor 3 (Rw (GFunc.cells .bor) p0.funcs))], V.int p1] [] (.agg [V.int r.a, V.int r.b, V.int r.c]) []) ∧
  (∀ {k : Nat} {p0 : GProgram} {p1 : Int} {p2 : Int} {p3 : Int} {p4 : Int} {p5 : Int} {r : Bool}, spec_l06Stands k p0 p1 p2 p3 p4 p5 = some r → Con Tryz.prog 29 [.agg [.d (.row .bor 3 (Rw (GFunc.cells .bor) p0.funcs))], V.int p1, V.int p2, V.int p3, V.int p4, V.int p5] [] (V.bool r) []) := by
  refine ⟨?_, ?_⟩
  all_goals intros
  all_goals rename_i h
  all_goals first
    | (with_reducible refine isf 108 ?_
       refine csw Tryz.func108 Tryz.call108 (by simp [Tryz.ntmps108]) (h := ?_)
       refine mkf 108 fun hF => ?_
       rw [Tryz.ntmps108, Tryz.results108]
       unfold spec_l04Func at h)
    | (with_reducible refine isf 29 ?_
       refine csw Tryz.func29 Tryz.call29 (by simp [Tryz.ntmps29]) (h := ?_)
       refine mkf 29 fun hF => ?_
       rw [Tryz.ntmps29, Tryz.results29]
       unfold spec_l06Stands at h)
  all_goals (replace h := Yes.mk h; simp only [entryS, entryO, Nat.reduceAdd, List.length_nil, List.length_cons])
  repeat' (first
 | (with_reducible (first | refine sw_reg ?_ | refine sw_ret ?_ | refine sw_skip ?_ | refine sw_block ?_ | refine sw_exit ?_ | refine seqQ_normal ?_ | refine blockQ_normal ?_ | refine blockQ_ret ?_ | refine blockQ_this ?_ | refine blockQ_other (by decide) ?_ | refine regW_nil ?_ | refine sw_draw mixed ?_ | refine retQ_ret ?_ | refine retQ_normal ?_))
 | (with_reducible refine regD_nil ?_
    refine ⟨by kernel_rfl, ?_⟩)
 | (revert h; (first | ((with_reducible refine idx_elim ?_); intro m hm1 hm2 hm3 h; (try (simp only [Int.reduceToNat] at hm3)); (try (revert hm3; (with_reducible apply same_elim); (focus (with_reducible assumption)); rintro rfl)); (try (simp only [List.length_set, List.length_cons, List.length_nil, List.length_replicate, Nat.reduceAdd, Int.cast_ofNat_Int, Nat.zero_add, List.length_append] at hm2))) | (with_reducible refine sidx_elim ?_; intro m hm1 hm3 h) | (with_reducible refine gd_elim ?_; intro hg h; try (have hg2 := hg.2; have hg := hg.1; (try (simp only [Nat.reduceLeDiff] at hg2)); (try (revert hg2; (with_reducible refine toNat_elim hg ?_); intro hg2 hg4)); try (have hg3 := hg2.2; have hg2 := hg2.1; (try (simp only [Nat.reduceLeDiff] at hg3))))) | (with_reducible refine condt_elim ?_ ?_; (focus (with_reducible assumption)); intro h) | (with_reducible refine condf_elim ?_ ?_; (focus (with_reducible assumption)); intro h)))
 | ((with_reducible first | refine pnR ?_ | refine pnE ?_ | refine pmR ?_ | refine pmE ?_)
    obtain rfl := h.get
    have h := hK
    clear hK
    (try (simp only [Sum.elim_inl, Sum.elim_inr] at h)))
 | ((with_reducible refine fi 108 ?_ ?_); (focus (with_reducible assumption))
    first
    | (with_reducible refine here_loop (c := (.seq (.seq (.region 5 _ _) _) _)) ?_
       revert h
       with_reducible refine bind_elimY ?_
       intro o2 h hK
       refine lpA (β := (List GFunc) × GI3 × Int × Int × (List GI2) × Int × Int) 20000000 (fun x => [(.s 1, some (.v (V.int x.2.2.2.2.2.2.1))), (.s 2, some (.v (.mp 0 1 0 0))), (.s 4, some (.v (.mp 64 3 0 0))), (.s 5, some (.v (.mp 448 3 0 0))), (.s 6, some (.v (V.int x.2.2.2.2.2.2.2))), (.r 0, some (.o 1 [[.d (.row .bor 3 (Rw (GFunc.cells .bor) x.2.1))]])), (.r 64, some (.o 3 [[V.int x.2.2.1.a, V.int x.2.2.1.b, V.int x.2.2.1.c]])), (.r 448, some (.o 3 [[V.int x.2.2.2.1, V.int x.2.2.2.2.1, .d (.row .bor 2 (Rw GI2.cells x.2.2.2.2.2.1))]]))]) (fun x => Yes (spec_l04Func.l2 x.1 x.2.1 x.2.2.1 x.2.2.2.1 x.2.2.2.2.1 x.2.2.2.2.2.1 x.2.2.2.2.2.2.1 x.2.2.2.2.2.2.2) o2) (_, _, _, _, _, _, _, _) h ?_
       rintro ⟨_ | k, a1, a2, a3, a4, a5, a6, a7⟩ h
       · simp only [spec_l04Func.l2] at h; exact h.none
       simp only [spec_l04Func.l2] at h
   )
    | (with_reducible refine here_join (a := (.seq (.region 2 _ _) _)) (b := (.seq (.seq (.region 4 _ _) _) _)) ?_
       revert h
       with_reducible refine bind_elimY ?_
       intro o1 h hK
       unfold spec_l04Func.a1 at h
       refine sw_join (ι := (List GFunc) × GI3 × Int × Int × (List GI2) × Int) 10000000 (fun x => [(.s 1, some (.v (V.int x.2.2.2.2.2))), (.s 2, some (.v (.mp 0 1 0 0))), (.s 4, some (.v (.mp 64 3 0 0))), (.s 5, some (.v (.mp 448 3 0 0))), (.r 0, some (.o 1 [[.d (.row .bor 3 (Rw (GFunc.cells .bor) x.1))]])), (.r 64, some (.o 3 [[V.int x.2.1.a, V.int x.2.1.b, V.int x.2.1.c]])), (.r 448, some (.o 3 [[V.int x.2.2.1, V.int x.2.2.2.1, .d (.row .bor 2 (Rw GI2.cells x.2.2.2.2.1))]]))]) (fun x => Yes (some (.inr x)) o1) ?_ ?_
       rotate_left
       rintro ⟨b1, b2, b3, b4, b5, b6⟩ h
       obtain rfl := h.get
       have h := hK
       clear hK
       (try (simp only [Sum.elim_inl, Sum.elim_inr] at h))
       refine sw_gh ?_
       refine gh_sw ?_))
 | ((with_reducible refine fi 29 ?_ ?_); (focus (with_reducible assumption))
    first
    | (with_reducible refine here_join (a := (.seq (.region 1 _ _) _)) (b := (.seq (.region 3 _ _) _)) ?_
       revert h
       with_reducible refine bind_elimY ?_
       intro o1 h hK
       unfold spec_l06Stands.a1 at h
       refine sw_join (ι := (List GFunc) × Int × Int × Int × Int) 10000000 (fun x => [(.s 1, some (.v (V.int x.2.1))), (.s 2, some (.v (V.int x.2.2.1))), (.s 4, some (.v (V.int x.2.2.2.1))), (.s 5, some (.v (V.int x.2.2.2.2))), (.s 6, some (.v (.mp 0 1 0 0))), (.r 0, some (.o 1 [[.d (.row .bor 3 (Rw (GFunc.cells .bor) x.1))]]))]) (fun x => Yes (some (.inr x)) o1) ?_ ?_
       rotate_left
       rintro ⟨b1, b2, b3, b4, b5⟩ h
       obtain rfl := h.get
       have h := hK
       clear hK
       (try (simp only [Sum.elim_inl, Sum.elim_inr] at h))
       refine sw_gh ?_
       refine gh_sw ?_))
 | (with_reducible refine here_next ?_
    first | refine nxA (_, _, _, _, _, _, _, _) h)
 | (with_reducible refine here_meet ?_
    first | refine mtA (_, _, _, _, _) h | refine mtA (_, _, _, _, _, _) h)
 | with_reducible refine sw_seq ?_
 | with_reducible refine seqQ_ret ?_
 | with_reducible refine seqQ_exit ?_
 | ((with_reducible refine wp_ite ?_ ?_)
    all_goals (intro hc; (try (simp only [Bool.not_eq_true, Bool.not_eq_false] at hc)); simp only [hc]))
 | (with_reducible refine rskip (hs := ?_) (h2 := ?_)
    · simp only [lkd, lkb, reduceCtorEq, Nat.reduceEqDiff]; done)
 | (with_reducible refine ryes (hs := ?_) (h := ?_)
    · simp only [lkd, lkb, reduceCtorEq, Nat.reduceEqDiff]; done)
 | (with_reducible refine rno (hs := ?_) (h := ?_)
    · simp only [lkd, lkb, reduceCtorEq, Nat.reduceEqDiff, Bool.not_true, Bool.not_false]; done)
 | (with_reducible apply regW_guardN
    · simp only [dstOk, Nat.reduceLT]
    · rfl
    · simp only [lkd, lkb, reduceCtorEq, Nat.reduceEqDiff]; rfl
    all_goals (intro hc; (try (simp only [Bool.not_true, Bool.not_false] at hc))))
 | (with_reducible apply sw_cond
    · simp only [lkd, lkb, reduceCtorEq, Nat.reduceEqDiff]; rfl
    all_goals (intro hc; try (cases hc; done)))
 | ((first
     | ((with_reducible refine gh_ret ?_)
        revert h
        with_reducible refine some_elim ?_
        rintro rfl)
     | (with_reducible refine here_call ?_
        revert h
        with_reducible refine bind_elim ?_
        intro t ht h
        (first
          | ((first
              | ((with_reducible refine here_call (f := 69) ?_); refine call_dataE (c_spec_l04Heights ht) ?_ rfl ?_)
              | ((with_reducible refine here_call (f := 136) ?_); refine call_dataE (c_spec_InsRight ht) ?_ rfl ?_))
             · first | rfl | (simp; done))))
     | (with_reducible (first | refine ropD (h := ?_) | refine ropW (h := ?_))
        intro k hk)
     | skip)
    simp only [bn, lkb, evb, evd, Value.oneCell', setSeg, reduceCtorEq, Nat.reduceAdd, Nat.reduceMul, Nat.reduceSub, Nat.reduceLT, Nat.reduceLeDiff, Nat.reduceEqDiff, Int.reduceNeg, Int.reduceToNat, ty2, ty3, ty4, ty23, ty25, ty28, ty90, ty92, ty94, ty98, GFunc.cells, GI2.cells, GI3.cells, GProgram.cells, cI, cB, cS, cL, GI2_e, GFunc_e, GProgram_e, GI3_e, LcIi64_e, buildP, buildSliceP, putParts, structPlaces, chunks, List.replicate, List.flatten_nil, List.flatten_cons, Option.bind_some, cellsEq, cellEq, Bool.and_true, fl98_spec_l06Stands, *]
    try (refine hk.use _ _ _ _ ?_; clear hk k))
 | fail)
  all_goals (try rfl)
  all_goals (try (simp; done))
  all_goals (try (simp_all; done))
def c_spec_l04Func := @And.left _ _ gr19
def c_spec_l06Stands := (@And.right _ _ gr19)
end Go.Proofs.YtdlaplgofgklnaaGreat