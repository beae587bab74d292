/- WHAT IS PROVED: an abstract walker over the model, what some functions of the program answer, and laws of these answers. Conditions: none. -/
import Derived.Test.YtdlaplgofgklnaaGreatKs9
namespace Go.Proofs.YtdlaplgofgklnaaGreat
open Go.Proofs Go.Proofs.YtdlaplgofgklnaaGreat.L
set_option maxHeartbeats 8000000
set_option linter.unusedSimpArgs false
set_option linter.unusedVariables false
set_option maxRecDepth 100000
set_option linter.defProp false
def spec_l06Copy.l1 : Nat → (List GFrame) → (List (List Int)) → (List Int) → Int → Bool → Int → Int → GState → GState → Int → Option ((List GFrame) × (List (List Int)) × (List Int) × Int × Bool × Int × Int × GState × GState)
  | 0, _, _, _, _, _, _, _, _, _, _ => none
  | k + 1, a1, a2, a3, a4, a5, a6, a7, a8, a9, a10 => cond ((decide (a10 < ((a1.length : Int))))) ((idx a1 a10).bind fun m2 => (spec_l06CopyFrame m2).bind fun t3 => gd ((a9.frames.length + 1) * 64 ≤ 35184372088832 ∧ a9.frames.length + 1 ≤ 35184372088832) (spec_l06Copy.l1 k a1 a2 a3 a4 a5 a6 a7 a8 ((⟨(a9.frames ++ [t3]), a9.heap, a9.out, a9.fuel0, a9.done, a9.value, a9.trap⟩ : GState)) ((IntKind.i64.wrap (a10 + 1))))) (some (a1, a2, a3, a4, a5, a6, a7, a8, a9))
def spec_l06Copy.l2 : Nat → (List GFrame) → (List (List Int)) → (List Int) → Int → Bool → Int → Int → GState → GState → Int → Option (GState × GState)
  | 0, _, _, _, _, _, _, _, _, _, _ => none
  | k + 1, a1, a2, a3, a4, a5, a6, a7, a8, a9, a10 => cond ((decide (a10 < ((a2.length : Int))))) ((idx a2 a10).bind fun m4 => (spec_l06Nums m4).bind fun t5 => gd ((a9.heap.length + 1) * 24 ≤ 35184372088832 ∧ a9.heap.length + 1 ≤ 35184372088832) (spec_l06Copy.l2 k a1 a2 a3 a4 a5 a6 a7 a8 ((⟨a9.frames, (a9.heap ++ [t5]), a9.out, a9.fuel0, a9.done, a9.value, a9.trap⟩ : GState)) ((IntKind.i64.wrap (a10 + 1))))) (some (a8, a9))
def spec_l06Copy (k : Nat) (p0 : GState) : Option (GState) :=
  (spec_l06Nums p0.out).bind fun t1 => (spec_l06Copy.l1 k p0.frames p0.heap p0.out p0.fuel0 p0.done p0.value p0.trap ((⟨[], [], [], 0, false, 0, 0⟩ : GState)) ((⟨[], [], t1, p0.fuel0, p0.done, p0.value, p0.trap⟩ : GState)) 0).bind fun o1 => (spec_l06Copy.l2 k o1.1 o1.2.1 o1.2.2.1 o1.2.2.2.1 o1.2.2.2.2.1 o1.2.2.2.2.2.1 o1.2.2.2.2.2.2.1 o1.2.2.2.2.2.2.2.1 o1.2.2.2.2.2.2.2.2 0).bind fun o2 => some o2.2
def laws_eqFrameS.l1 : Nat → (List GFrame) → (List GFrame) → Int → Option ((Bool) ⊕ (Unit))
  | 0, _, _, _ => none
  | k + 1, a1, a2, a3 => cond ((decide (a3 < ((a1.length : Int))))) ((idx a1 a3).bind fun m1 => (idx a2 a3).bind fun m2 => (laws_eqFrame k m1 m2).bind fun t3 => cond ((!t3)) (some (.inl (false))) (laws_eqFrameS.l1 k a1 a2 ((IntKind.i64.wrap (a3 + 1))))) (some (.inr ()))
def laws_eqFrameS (k : Nat) (p0 : (List GFrame)) (p1 : (List GFrame)) : Option (Bool) :=
  cond ((((p0.length : Int)) != ((p1.length : Int)))) (some false) ((laws_eqFrameS.l1 k p0 p1 0).bind fun o1 => Sum.elim (fun o1l => some o1l) (fun o1r => some true) o1)
def laws_eqFunc (k : Nat) (p0 : GFunc) (p1 : GFunc) : Option (Bool) :=
  cond ((p0.args != p1.args)) (some false) (cond ((p0.locals != p1.locals)) (some false) ((laws_eqInsS k p0.code p1.code).bind fun t1 => cond ((!t1)) (some false) (some true)))
def laws_heldState (k : Nat) (p0 : GState) (p1 : Int) : Option (Int) :=
  (laws_heldFrameS k p0.frames p1).bind fun t1 => cond ((decide (t1 < 0))) (some ((-1))) ((laws_heldInt64SS k p0.heap t1).bind fun t2 => cond ((decide (t2 < 0))) (some ((-1))) ((laws_heldInt64S k p0.out t2).bind fun t3 => cond ((decide (t3 < 0))) (some ((-1))) (some t3)))
def laws_markProgram (k : Nat) (p0 : GProgram) (p1 : Int) : Option (Int × (List GFunc)) :=
  (laws_markFuncS k p0.funcs p1).bind fun t1 => gd (t1.2.length = p0.funcs.length) (some (t1.1, t1.2))
def laws_markState (k : Nat) (p0 : GState) (p1 : Int) : Option (Int × (List GFrame) × (List (List Int)) × (List Int)) :=
  (laws_markFrameS k p0.frames p1).bind fun t1 => gd (t1.2.length = p0.frames.length) ((laws_markInt64SS k p0.heap t1.1).bind fun t2 => gd (t2.2.length = p0.heap.length) ((laws_markInt64S k p0.out t2.1).bind fun t3 => gd (t3.2.length = p0.out.length) (some (t3.1, t1.2, t2.2, t3.2))))
def laws_szFrameS.l1 : Nat → (List GFrame) → Int → Int → Option ((Int) ⊕ (Int))
  | 0, _, _, _ => none
  | k + 1, a1, a2, a3 => cond ((decide (a3 < ((a1.length : Int))))) ((idx a1 a3).bind fun m1 => (laws_szFrame m1 a2).bind fun t2 => cond ((decide (t2 < 0))) (some (.inl ((-1)))) (laws_szFrameS.l1 k a1 t2 ((IntKind.i64.wrap (a3 + 1))))) (some (.inr (a2)))
def laws_szFrameS (k : Nat) (p0 : (List GFrame)) (p1 : Int) : Option (Int) :=
  cond ((decide (((IntKind.i64.wrap (p1 - ((p0.length : Int))))) < 0))) (some ((-1))) ((laws_szFrameS.l1 k p0 ((IntKind.i64.wrap (p1 - ((p0.length : Int))))) 0).bind fun o1 => Sum.elim (fun o1l => some o1l) (fun o1r => some o1r) o1)
def laws_szFuncS.l1 : Nat → (List GFunc) → Int → Int → Option ((Int) ⊕ (Int))
  | 0, _, _, _ => none
  | k + 1, a1, a2, a3 => cond ((decide (a3 < ((a1.length : Int))))) ((idx a1 a3).bind fun m1 => (laws_szFunc m1 a2).bind fun t2 => cond ((decide (t2 < 0))) (some (.inl ((-1)))) (laws_szFuncS.l1 k a1 t2 ((IntKind.i64.wrap (a3 + 1))))) (some (.inr (a2)))
def laws_szFuncS (k : Nat) (p0 : (List GFunc)) (p1 : Int) : Option (Int) :=
  cond ((decide (((IntKind.i64.wrap (p1 - ((p0.length : Int))))) < 0))) (some ((-1))) ((laws_szFuncS.l1 k p0 ((IntKind.i64.wrap (p1 - ((p0.length : Int))))) 0).bind fun o1 => Sum.elim (fun o1l => some o1l) (fun o1r => some o1r) o1)
def laws_toFrameS.l1 : Nat → (List GFrame) → (List GFrame) → Int → Option ((List GFrame))
  | 0, _, _, _ => none
  | k + 1, a1, a2, a3 => cond ((decide (a3 < ((a2.length : Int))))) ((idx a2 a3).bind fun m1 => (laws_toFrame k m1).bind fun t2 => (idx a1 a3).bind fun m3 => laws_toFrameS.l1 k ((a1.set a3.toNat t2)) a2 ((IntKind.i64.wrap (a3 + 1)))) (some (a1))
def laws_toFrameS (k : Nat) (p0 : (List GFrame)) : Option ((List GFrame)) :=
  gd (0 ≤ (p0.length : Int) ∧ ((p0.length : Int)) * 64 ≤ 35184372088832 ∧ (p0.length : Int) ≤ 35184372088832) ((laws_toFrameS.l1 k ((List.replicate p0.length (⟨0, 0, [], []⟩))) p0 0).bind fun o1 => some o1)
def laws_toFunc (k : Nat) (p0 : GFunc) : Option (GFunc) :=
  (laws_toInsS k p0.code).bind fun t1 => some ((⟨p0.args, p0.locals, t1⟩ : GFunc))
theorem gs18 : (∀ {k : Nat} {p0 : GState} {r : GState}, spec_l06Copy k p0 = some r → Con Tryz.prog 39 [.agg [.d (.row .bor 4 (Rw (GFrame.cells .bor) p0.frames)), .d (.row .bor 1 (Rw (cL .bor 1 (cI .i64)) p0.heap)), .d (.row .bor 1 (Rw (cI .i64) p0.out)), V.int p0.fuel0, V.bool p0.done, V.int p0.value, V.int p0.trap]] [] (.agg [.d (.row .own 4 (Rw (GFrame.cells .own) r.frames)), .d (.row .own 1 (Rw (cL .own 1 (cI .i64)) r.heap)), .d (.row .own 1 (Rw (cI .i64) r.out)), V.int r.fuel0, V.bool r.done, V.int r.value, V.int r.trap]) []) ∧
  (∀ {k : Nat} {p0 : (List GFrame)} {p1 : (List GFrame)} {r : Bool}, laws_eqFrameS k p0 p1 = some r → Con Tryz.prog 54 [.d (.row .bor 4 (Rw (GFrame.cells .bor) p0)), .d (.row .bor 4 (Rw (GFrame.cells .bor) p1))] [] (V.bool r) []) ∧
  (∀ {k : Nat} {p0 : GFunc} {p1 : GFunc} {r : Bool}, laws_eqFunc k p0 p1 = some r → Con Tryz.prog 96 [.agg [V.int p0.args, V.int p0.locals, .d (.row .bor 2 (Rw GI2.cells p0.code))], .agg [V.int p1.args, V.int p1.locals, .d (.row .bor 2 (Rw GI2.cells p1.code))]] [] (V.bool r) []) ∧
  (∀ {k : Nat} {p0 : GState} {p1 : Int} {r : Int}, laws_heldState k p0 p1 = some r → Con Tryz.prog 24 [.agg [.d (.row .bor 4 (Rw (GFrame.cells .bor) p0.frames)), .d (.row .bor 1 (Rw (cL .bor 1 (cI .i64)) p0.heap)), .d (.row .bor 1 (Rw (cI .i64) p0.out)), V.int p0.fuel0, V.bool p0.done, V.int p0.value, V.int p0.trap], V.int p1] [] (V.int r) []) ∧
  (∀ {k : Nat} {p0 : GProgram} {p1 : Int} {r : Int × (List GFunc)}, laws_markProgram k p0 p1 = some r → Con Tryz.prog 22 [.agg [.sl 0 3 0 p0.funcs.length], V.int p1] [.o 3 (dd (Rw (GFunc.cells .own) p0.funcs))] (V.int r.1) [.o 3 (dd (Rw (GFunc.cells .own) r.2))]) ∧
  (∀ {k : Nat} {p0 : GState} {p1 : Int} {r : Int × (List GFrame) × (List (List Int)) × (List Int)}, laws_markState k p0 p1 = some r → Con Tryz.prog 23 [.agg [.sl 0 4 0 p0.frames.length, .sl 1 1 0 p0.heap.length, .sl 2 1 0 p0.out.length, V.int p0.fuel0, V.bool p0.done, V.int p0.value, V.int p0.trap], V.int p1] [.o 4 (dd (Rw (GFrame.cells .own) p0.frames)), .o 1 (dd (Rw (cL .own 1 (cI .i64)) p0.heap)), .o 1 (dd (Rw (cI .i64) p0.out))] (V.int r.1) [.o 4 (dd (Rw (GFrame.cells .own) r.2.1)), .o 1 (dd (Rw (cL .own 1 (cI .i64)) r.2.2.1)), .o 1 (dd (Rw (cI .i64) r.2.2.2))]) ∧
  (∀ {k : Nat} {p0 : (List GFrame)} {p1 : Int} {r : Int}, laws_szFrameS k p0 p1 = some r → Con Tryz.prog 47 [.d (.row .bor 4 (Rw (GFrame.cells .bor) p0)), V.int p1] [] (V.int r) []) ∧
  (∀ {k : Nat} {p0 : (List GFunc)} {p1 : Int} {r : Int}, laws_szFuncS k p0 p1 = some r → Con Tryz.prog 46 [.d (.row .bor 3 (Rw (GFunc.cells .bor) p0)), V.int p1] [] (V.int r) []) ∧
  (∀ {k : Nat} {p0 : (List GFrame)} {r : (List GFrame)}, laws_toFrameS k p0 = some r → Con Tryz.prog 51 [.d (.row .bor 4 (Rw (GFrame.cells .bor) p0))] [] (.d (.row .own 4 (Rw (GFrame.cells .own) r))) []) ∧
  (∀ {k : Nat} {p0 : GFunc} {r : GFunc}, laws_toFunc k p0 = some r → Con Tryz.prog 93 [.agg [V.int p0.args, V.int p0.locals, .d (.row .bor 2 (Rw GI2.cells p0.code))]] [] (.agg [V.int r.args, V.int r.locals, .d (.row .own 2 (Rw GI2.cells r.code))]) []) := by
  refine ⟨?_, ?_, ?_, ?_, ?_, ?_, ?_, ?_, ?_, ?_⟩
  all_goals intros
  all_goals rename_i h
  all_goals first
    | (with_reducible refine isf 39 ?_
       refine csw Tryz.func39 Tryz.call39 (by simp [Tryz.ntmps39]) (h := ?_)
       refine mkf 39 fun hF => ?_
       rw [Tryz.ntmps39, Tryz.results39]
       unfold spec_l06Copy at h)
    | (with_reducible refine isf 54 ?_
       refine csw Tryz.func54 Tryz.call54 (by simp [Tryz.ntmps54]) (h := ?_)
       refine mkf 54 fun hF => ?_
       rw [Tryz.ntmps54, Tryz.results54]
       unfold laws_eqFrameS at h)
    | (with_reducible refine isf 96 ?_
       refine csw Tryz.func96 Tryz.call96 (by simp [Tryz.ntmps96]) (h := ?_)
       refine mkf 96 fun hF => ?_
       rw [Tryz.ntmps96, Tryz.results96]
       unfold laws_eqFunc at h)
    | (with_reducible refine isf 24 ?_
       refine csw Tryz.func24 Tryz.call24 (by simp [Tryz.ntmps24]) (h := ?_)
       refine mkf 24 fun hF => ?_
       rw [Tryz.ntmps24, Tryz.results24]
       unfold laws_heldState at h)
    | (with_reducible refine isf 22 ?_
       refine csw Tryz.func22 Tryz.call22 (by simp [Tryz.ntmps22]) (h := ?_)
       refine mkf 22 fun hF => ?_
       rw [Tryz.ntmps22, Tryz.results22]
       unfold laws_markProgram at h)
    | (with_reducible refine isf 23 ?_
       refine csw Tryz.func23 Tryz.call23 (by simp [Tryz.ntmps23]) (h := ?_)
       refine mkf 23 fun hF => ?_
       rw [Tryz.ntmps23, Tryz.results23]
       unfold laws_markState at h)
    | (with_reducible refine isf 47 ?_
       refine csw Tryz.func47 Tryz.call47 (by simp [Tryz.ntmps47]) (h := ?_)
       refine mkf 47 fun hF => ?_
       rw [Tryz.ntmps47, Tryz.results47]
       unfold laws_szFrameS at h)
    | (with_reducible refine isf 46 ?_
       refine csw Tryz.func46 Tryz.call46 (by simp [Tryz.ntmps46]) (h := ?_)
       refine mkf 46 fun hF => ?_
       rw [Tryz.ntmps46, Tryz.results46]
       unfold laws_szFuncS at h)
    | (with_reducible refine isf 51 ?_
       refine csw Tryz.func51 Tryz.call51 (by simp [Tryz.ntmps51]) (h := ?_)
       refine mkf 51 fun hF => ?_
       rw [Tryz.ntmps51, Tryz.results51]
       unfold laws_toFrameS at h)
    | (with_reducible refine isf 93 ?_
       refine csw Tryz.func93 Tryz.call93 (by simp [Tryz.ntmps93]) (h := ?_)
       refine mkf 93 fun hF => ?_
       rw [Tryz.ntmps93, Tryz.results93]
       unfold laws_toFunc at h)
  all_goals (replace h := Yes.mk h; simp only [entryS, entryO, Nat.reduceAdd, List.length_nil, List.length_cons])
  repeat' (first
 | ((with_reducible refine fi 39 ?_ ?_); (focus (with_reducible assumption))
    first
    | (with_reducible refine here_reg (i := 5) ?_
       refine sw_gh ?_
       with_reducible apply gh_nameCell 896 0
       · simp only [putSt, lk, lkb, reduceCtorEq, Nat.reduceEqDiff]; rfl
       · rfl
       simp only [List.set_cons_zero, List.set_cons_succ, Nat.reduceAdd, Rw_length]
       refine gh_sw ?_)
    | (with_reducible refine here_reg (i := 9) ?_
       refine sw_gh ?_
       with_reducible apply gh_nameCell 896 1
       · simp only [putSt, lk, lkb, reduceCtorEq, Nat.reduceEqDiff]; rfl
       · rfl
       simp only [List.set_cons_zero, List.set_cons_succ, Nat.reduceAdd, Rw_length]
       refine gh_sw ?_))
 | (with_reducible (first | refine sw_reg ?_ | refine sw_ret ?_ | refine sw_skip ?_ | refine sw_block ?_ | refine sw_exit ?_ | refine seqQ_normal ?_ | refine blockQ_normal ?_ | refine blockQ_ret ?_ | refine blockQ_this ?_ | refine blockQ_other (by decide) ?_ | refine regW_nil ?_ | refine sw_draw mixed ?_ | refine retQ_ret ?_ | refine retQ_normal ?_))
 | (with_reducible refine regD_nil ?_
    refine ⟨by kernel_rfl, ?_⟩)
 | (revert h; (first | ((with_reducible refine idx_elim ?_); intro m hm1 hm2 hm3 h; (try (simp only [Int.reduceToNat] at hm3)); (try (revert hm3; (with_reducible apply same_elim); (focus (with_reducible assumption)); rintro rfl)); (try (simp only [List.length_set, List.length_cons, List.length_nil, List.length_replicate, Nat.reduceAdd, Int.cast_ofNat_Int, Nat.zero_add, List.length_append] at hm2))) | (with_reducible refine sidx_elim ?_; intro m hm1 hm3 h) | (with_reducible refine gd_elim ?_; intro hg h; try (have hg2 := hg.2; have hg := hg.1; (try (simp only [Nat.reduceLeDiff] at hg2)); (try (revert hg2; (with_reducible refine toNat_elim hg ?_); intro hg2 hg4)); try (have hg3 := hg2.2; have hg2 := hg2.1; (try (simp only [Nat.reduceLeDiff] at hg3))))) | (with_reducible refine condt_elim ?_ ?_; (focus (with_reducible assumption)); intro h) | (with_reducible refine condf_elim ?_ ?_; (focus (with_reducible assumption)); intro h)))
 | ((with_reducible first | refine pnR ?_ | refine pnE ?_ | refine pmR ?_ | refine pmE ?_)
    obtain rfl := h.get
    have h := hK
    clear hK
    (try (simp only [Sum.elim_inl, Sum.elim_inr] at h)))
 | ((with_reducible refine fi 39 ?_ ?_); (focus (with_reducible assumption))
    first
    | (with_reducible refine here_loop (c := (.seq (.seq (.region 7 _ _) _) _)) ?_
       revert h
       with_reducible refine bind_elimY ?_
       intro o2 h hK
       refine lpA (β := (List GFrame) × (List (List Int)) × (List Int) × Int × Bool × Int × Int × GState × GState × Int) 20000000 (fun x => [(.s 1, some (.v (.mp 0 7 0 0))), (.s 2, some (.v (.mp 64 7 0 0))), (.s 3, some (.v (.mp 896 7 0 0))), (.s 5, some (.v (V.int x.2.2.2.2.2.2.2.2.2.2))), (.r 0, some (.o 7 [[.d (.row .bor 4 (Rw (GFrame.cells .bor) x.2.1)), .d (.row .bor 1 (Rw (cL .bor 1 (cI .i64)) x.2.2.1)), .d (.row .bor 1 (Rw (cI .i64) x.2.2.2.1)), V.int x.2.2.2.2.1, V.bool x.2.2.2.2.2.1, V.int x.2.2.2.2.2.2.1, V.int x.2.2.2.2.2.2.2.1]])), (.r 64, some (.o 7 [[.d (.row .own 4 (Rw (GFrame.cells .own) x.2.2.2.2.2.2.2.2.1.frames)), .d (.row .own 1 (Rw (cL .own 1 (cI .i64)) x.2.2.2.2.2.2.2.2.1.heap)), .d (.row .own 1 (Rw (cI .i64) x.2.2.2.2.2.2.2.2.1.out)), V.int x.2.2.2.2.2.2.2.2.1.fuel0, V.bool x.2.2.2.2.2.2.2.2.1.done, V.int x.2.2.2.2.2.2.2.2.1.value, V.int x.2.2.2.2.2.2.2.2.1.trap]])), (.r 896, some (.o 7 [[.d (.row .own 4 (Rw (GFrame.cells .own) x.2.2.2.2.2.2.2.2.2.1.frames)), .d (.row .own 1 (Rw (cL .own 1 (cI .i64)) x.2.2.2.2.2.2.2.2.2.1.heap)), .d (.row .own 1 (Rw (cI .i64) x.2.2.2.2.2.2.2.2.2.1.out)), V.int x.2.2.2.2.2.2.2.2.2.1.fuel0, V.bool x.2.2.2.2.2.2.2.2.2.1.done, V.int x.2.2.2.2.2.2.2.2.2.1.value, V.int x.2.2.2.2.2.2.2.2.2.1.trap]]))]) (fun x => Yes (spec_l06Copy.l2 x.1 x.2.1 x.2.2.1 x.2.2.2.1 x.2.2.2.2.1 x.2.2.2.2.2.1 x.2.2.2.2.2.2.1 x.2.2.2.2.2.2.2.1 x.2.2.2.2.2.2.2.2.1 x.2.2.2.2.2.2.2.2.2.1 x.2.2.2.2.2.2.2.2.2.2) o2) (_, _, _, _, _, _, _, _, _, _, _) h ?_
       rintro ⟨_ | k, a1, a2, a3, a4, a5, a6, a7, a8, a9, a10⟩ h
       · simp only [spec_l06Copy.l2] at h; exact h.none
       simp only [spec_l06Copy.l2] at h
   )
    | (with_reducible refine here_loop (c := (.seq (.seq (.region 3 _ _) _) _)) ?_
       revert h
       with_reducible refine bind_elimY ?_
       intro o1 h hK
       refine sw_gh ?_
       (try (apply gh_conv 64; (focus (simp only [putSt, lk, lkb, reduceCtorEq, Nat.reduceEqDiff]; try rfl)); (focus (apply All2.cons; (focus (apply All2.cons; (focus (first | exact Conv1.nil (m := .own) (s := 4) | exact .same)); apply All2.cons; (focus (first | exact Conv1.nil (m := .own) (s := 1) | exact .same)); apply All2.cons; (focus (first | exact Conv1.nil (m := .own) (s := 1) | exact .same)); apply All2.cons; (focus (exact .same)); apply All2.cons; (focus (exact .same)); apply All2.cons; (focus (exact .same)); apply All2.cons; (focus (exact .same)); exact .nil)); exact .nil))))
       (try (apply gh_conv 896; (focus (simp only [putSt, lk, lkb, reduceCtorEq, Nat.reduceEqDiff]; try rfl)); (focus (apply All2.cons; (focus (apply All2.cons; (focus (first | exact Conv1.nil (m := .own) (s := 4) | exact .same)); apply All2.cons; (focus (first | exact Conv1.nil (m := .own) (s := 1) | exact .same)); apply All2.cons; (focus (first | exact Conv1.nil (m := .own) (s := 1) | exact .same)); apply All2.cons; (focus (exact .same)); apply All2.cons; (focus (exact .same)); apply All2.cons; (focus (exact .same)); apply All2.cons; (focus (exact .same)); exact .nil)); exact .nil))))
       (try (apply gh_resObj 896; (focus (simp only [putSt, lk, lkb, reduceCtorEq, Nat.reduceEqDiff]; try rfl)); simp only [rxb, Nat.reduceAdd, Nat.reduceLeDiff, rxd, putSt, lk, lkb, reduceCtorEq, Nat.reduceEqDiff, *, mmb, GFrame_Dset, GState_Dset, GI2_Dset, GFunc_Dset, GProgram_Dset, LcIi64_Dset]))
       refine gh_sw ?_
       refine lpA (β := (List GFrame) × (List (List Int)) × (List Int) × Int × Bool × Int × Int × GState × GState × Int) 10000000 (fun x => [(.s 1, some (.v (.mp 0 7 0 0))), (.s 2, some (.v (.mp 64 7 0 0))), (.s 3, some (.v (.mp 896 7 0 0))), (.s 4, some (.v (V.int x.2.2.2.2.2.2.2.2.2.2))), (.r 0, some (.o 7 [[.d (.row .bor 4 (Rw (GFrame.cells .bor) x.2.1)), .d (.row .bor 1 (Rw (cL .bor 1 (cI .i64)) x.2.2.1)), .d (.row .bor 1 (Rw (cI .i64) x.2.2.2.1)), V.int x.2.2.2.2.1, V.bool x.2.2.2.2.2.1, V.int x.2.2.2.2.2.2.1, V.int x.2.2.2.2.2.2.2.1]])), (.r 64, some (.o 7 [[.d (.row .own 4 (Rw (GFrame.cells .own) x.2.2.2.2.2.2.2.2.1.frames)), .d (.row .own 1 (Rw (cL .own 1 (cI .i64)) x.2.2.2.2.2.2.2.2.1.heap)), .d (.row .own 1 (Rw (cI .i64) x.2.2.2.2.2.2.2.2.1.out)), V.int x.2.2.2.2.2.2.2.2.1.fuel0, V.bool x.2.2.2.2.2.2.2.2.1.done, V.int x.2.2.2.2.2.2.2.2.1.value, V.int x.2.2.2.2.2.2.2.2.1.trap]])), (.r 896, some (.o 7 [[.d (.row .own 4 (Rw (GFrame.cells .own) x.2.2.2.2.2.2.2.2.2.1.frames)), .d (.row .own 1 (Rw (cL .own 1 (cI .i64)) x.2.2.2.2.2.2.2.2.2.1.heap)), .d (.row .own 1 (Rw (cI .i64) x.2.2.2.2.2.2.2.2.2.1.out)), V.int x.2.2.2.2.2.2.2.2.2.1.fuel0, V.bool x.2.2.2.2.2.2.2.2.2.1.done, V.int x.2.2.2.2.2.2.2.2.2.1.value, V.int x.2.2.2.2.2.2.2.2.2.1.trap]]))]) (fun x => Yes (spec_l06Copy.l1 x.1 x.2.1 x.2.2.1 x.2.2.2.1 x.2.2.2.2.1 x.2.2.2.2.2.1 x.2.2.2.2.2.2.1 x.2.2.2.2.2.2.2.1 x.2.2.2.2.2.2.2.2.1 x.2.2.2.2.2.2.2.2.2.1 x.2.2.2.2.2.2.2.2.2.2) o1) (_, _, _, _, _, _, _, _, _, _, _) h ?_
       rintro ⟨_ | k, a1, a2, a3, a4, a5, a6, a7, a8, a9, a10⟩ h
       · simp only [spec_l06Copy.l1] at h; exact h.none
       simp only [spec_l06Copy.l1] at h
   )
    | (with_reducible refine here_next (N0 := 10000000) ?_
       (try (apply gh_conv 64; (focus (simp only [putSt, lk, lkb, reduceCtorEq, Nat.reduceEqDiff]; try rfl)); (focus (apply All2.cons; (focus (apply All2.cons; (focus (first | exact Conv1.nil (m := .own) (s := 4) | exact .same)); apply All2.cons; (focus (first | exact Conv1.nil (m := .own) (s := 1) | exact .same)); apply All2.cons; (focus (first | exact Conv1.nil (m := .own) (s := 1) | exact .same)); apply All2.cons; (focus (exact .same)); apply All2.cons; (focus (exact .same)); apply All2.cons; (focus (exact .same)); apply All2.cons; (focus (exact .same)); exact .nil)); exact .nil))))
       (try (apply gh_conv 896; (focus (simp only [putSt, lk, lkb, reduceCtorEq, Nat.reduceEqDiff]; try rfl)); (focus (apply All2.cons; (focus (apply All2.cons; (focus (first | exact Conv1.nil (m := .own) (s := 4) | exact .same)); apply All2.cons; (focus (first | exact Conv1.nil (m := .own) (s := 1) | exact .same)); apply All2.cons; (focus (first | exact Conv1.nil (m := .own) (s := 1) | exact .same)); apply All2.cons; (focus (exact .same)); apply All2.cons; (focus (exact .same)); apply All2.cons; (focus (exact .same)); apply All2.cons; (focus (exact .same)); exact .nil)); exact .nil))))
       (try (apply gh_resObj 896; (focus (simp only [putSt, lk, lkb, reduceCtorEq, Nat.reduceEqDiff]; try rfl)); simp only [rxb, Nat.reduceAdd, Nat.reduceLeDiff, rxd, putSt, lk, lkb, reduceCtorEq, Nat.reduceEqDiff, *, mmb, GFrame_Dset, GState_Dset, GI2_Dset, GFunc_Dset, GProgram_Dset, LcIi64_Dset]))
       refine nxA (_, _, _, _, _, _, _, _, _, _, _) h))
 | ((with_reducible refine fi 54 ?_ ?_); (focus (with_reducible assumption))
    first
    | (with_reducible refine here_loop (c := (.seq (.seq (.region 4 _ _) _) _)) ?_
       revert h
       with_reducible refine bind_elimY ?_
       intro o1 h hK
       refine lpA (β := (List GFrame) × (List GFrame) × Int) 10000000 (fun x => [(.s 0, some (.v (.d (.row .bor 4 (Rw (GFrame.cells .bor) x.2.1))))), (.s 1, some (.v (.d (.row .bor 4 (Rw (GFrame.cells .bor) x.2.2.1))))), (.s 5, some (.v (V.int x.2.2.2)))]) (fun x => Yes (laws_eqFrameS.l1 x.1 x.2.1 x.2.2.1 x.2.2.2) o1) (_, _, _, _) h ?_
       rintro ⟨_ | k, a1, a2, a3⟩ h
       · simp only [laws_eqFrameS.l1] at h; exact h.none
       simp only [laws_eqFrameS.l1] at h
   ))
 | ((with_reducible refine fi 47 ?_ ?_); (focus (with_reducible assumption))
    first
    | (with_reducible refine here_loop (c := (.seq (.seq (.region 5 _ _) _) _)) ?_
       revert h
       with_reducible refine bind_elimY ?_
       intro o1 h hK
       refine lpA (β := (List GFrame) × Int × Int) 10000000 (fun x => [(.s 0, some (.v (.d (.row .bor 4 (Rw (GFrame.cells .bor) x.2.1))))), (.s 1, some (.v (V.int x.2.2.1))), (.s 5, some (.v (V.int x.2.2.2)))]) (fun x => Yes (laws_szFrameS.l1 x.1 x.2.1 x.2.2.1 x.2.2.2) o1) (_, _, _, _) h ?_
       rintro ⟨_ | k, a1, a2, a3⟩ h
       · simp only [laws_szFrameS.l1] at h; exact h.none
       simp only [laws_szFrameS.l1] at h
   ))
 | ((with_reducible refine fi 46 ?_ ?_); (focus (with_reducible assumption))
    first
    | (with_reducible refine here_loop (c := (.seq (.seq (.region 5 _ _) _) _)) ?_
       revert h
       with_reducible refine bind_elimY ?_
       intro o1 h hK
       refine lpA (β := (List GFunc) × Int × Int) 10000000 (fun x => [(.s 0, some (.v (.d (.row .bor 3 (Rw (GFunc.cells .bor) x.2.1))))), (.s 1, some (.v (V.int x.2.2.1))), (.s 5, some (.v (V.int x.2.2.2)))]) (fun x => Yes (laws_szFuncS.l1 x.1 x.2.1 x.2.2.1 x.2.2.2) o1) (_, _, _, _) h ?_
       rintro ⟨_ | k, a1, a2, a3⟩ h
       · simp only [laws_szFuncS.l1] at h; exact h.none
       simp only [laws_szFuncS.l1] at h
   ))
 | ((with_reducible refine fi 51 ?_ ?_); (focus (with_reducible assumption))
    first
    | (with_reducible refine here_loop (c := (.seq (.seq (.region 3 _ _) _) _)) ?_
       revert h
       with_reducible refine bind_elimY ?_
       intro o1 h hK
       refine sw_gh ?_
       (try (apply gh_zero (f := (GFrame.cells .own)) 256 ⟨0, 0, [], []⟩; (focus (simp only [putSt, lk, lkb, reduceCtorEq, Nat.reduceEqDiff]; try rfl)); (focus (exact .cons .same (.cons .same (.cons .nil (.cons .nil (.nil))))))))
       (try (apply gh_resRow 256; (focus (simp only [putSt, lk, lkb, reduceCtorEq, Nat.reduceEqDiff]; try rfl)); (focus (first | (simp only [Rw_length, List.length_set]; omega) | (simp [Rw_length]; omega))); simp only [rxb, Nat.reduceAdd, Nat.reduceLeDiff, rxd, putSt, lk, lkb, reduceCtorEq, Nat.reduceEqDiff, *, mmb, GFrame_Dset, GState_Dset, GI2_Dset, GFunc_Dset, GProgram_Dset, LcIi64_Dset]))
       refine gh_sw ?_
       refine lpA (β := (List GFrame) × (List GFrame) × Int) 10000000 (fun x => [(.s 0, some (.v (.d (.row .bor 4 (Rw (GFrame.cells .bor) x.2.2.1))))), (.s 3, some (.v (.sl 256 4 0 x.2.1.length))), (.s 4, some (.v (V.int x.2.2.2))), (.r 256, some (.o 4 (dd (Rw (GFrame.cells .own) x.2.1))))]) (fun x => Yes (laws_toFrameS.l1 x.1 x.2.1 x.2.2.1 x.2.2.2) o1) (_, _, _, _) h ?_
       rintro ⟨_ | k, a1, a2, a3⟩ h
       · simp only [laws_toFrameS.l1] at h; exact h.none
       simp only [laws_toFrameS.l1] at h
   )
    | (with_reducible refine here_next (N0 := 10000000) ?_
       (try (apply gh_zero (f := (GFrame.cells .own)) 256 ⟨0, 0, [], []⟩; (focus (simp only [putSt, lk, lkb, reduceCtorEq, Nat.reduceEqDiff]; try rfl)); (focus (exact .cons .same (.cons .same (.cons .nil (.cons .nil (.nil))))))))
       (try (apply gh_resRow 256; (focus (simp only [putSt, lk, lkb, reduceCtorEq, Nat.reduceEqDiff]; try rfl)); (focus (first | (simp only [Rw_length, List.length_set]; omega) | (simp [Rw_length]; omega))); simp only [rxb, Nat.reduceAdd, Nat.reduceLeDiff, rxd, putSt, lk, lkb, reduceCtorEq, Nat.reduceEqDiff, *, mmb, GFrame_Dset, GState_Dset, GI2_Dset, GFunc_Dset, GProgram_Dset, LcIi64_Dset]))
       refine nxA (_, _, _, _) h))
 | (with_reducible refine here_next ?_
    first | refine nxA (_, _, _, _) h | refine nxA (_, _, _, _, _, _, _, _, _, _, _) h)
 | with_reducible refine sw_seq ?_
 | with_reducible refine seqQ_ret ?_
 | with_reducible refine seqQ_exit ?_
 | ((with_reducible refine fi 51 ?_ ?_); (focus (with_reducible assumption))
    first
    | (with_reducible refine gh_nilRow 2 .own 4 ?_ ?_
       · simp only [putSt, lk, lkb, reduceCtorEq, Nat.reduceEqDiff]; done
       skip))
 | ((with_reducible refine wp_ite ?_ ?_)
    all_goals (intro hc; (try (simp only [Bool.not_eq_true, Bool.not_eq_false] at hc)); simp only [hc]))
 | (with_reducible refine rskip (hs := ?_) (h2 := ?_)
    · simp only [putSt, lk, lkb, reduceCtorEq, Nat.reduceEqDiff]; done)
 | (with_reducible refine ryes (hs := ?_) (h := ?_)
    · simp only [putSt, lk, lkb, reduceCtorEq, Nat.reduceEqDiff]; done)
 | (with_reducible refine rno (hs := ?_) (h := ?_)
    · simp only [putSt, lk, lkb, reduceCtorEq, Nat.reduceEqDiff, Bool.not_true, Bool.not_false]; done)
 | (with_reducible apply regW_guardN
    · simp only [dstOk, Nat.reduceLT]
    · rfl
    · simp only [putSt, lk, lkb, reduceCtorEq, Nat.reduceEqDiff]; rfl
    all_goals (intro hc; (try (simp only [Bool.not_true, Bool.not_false] at hc))))
 | (with_reducible apply sw_cond
    · simp only [putSt, lk, lkb, reduceCtorEq, Nat.reduceEqDiff]; rfl
    all_goals (intro hc; try (cases hc; done)))
 | ((first
     | ((with_reducible refine gh_ret ?_)
        revert h
        with_reducible refine some_elim ?_
        rintro rfl)
     | (with_reducible refine here_call ?_
        revert h
        with_reducible refine bind_elim ?_
        intro t ht h
        (first
          | ((first
              | ((with_reducible refine here_call (f := 83) ?_); refine call_dataE (c_spec_l06Nums ht) ?_ rfl ?_)
              | ((with_reducible refine here_call (f := 84) ?_); refine call_dataE (c_spec_l06CopyFrame ht) ?_ rfl ?_)
              | ((with_reducible refine here_call (f := 95) ?_); refine call_dataE (c_laws_eqFrame ht) ?_ rfl ?_)
              | ((with_reducible refine here_call (f := 130) ?_); refine call_dataE (c_laws_eqInsS ht) ?_ rfl ?_)
              | ((with_reducible refine here_call (f := 62) ?_); refine call_dataE (c_laws_heldFrameS ht) ?_ rfl ?_)
              | ((with_reducible refine here_call (f := 63) ?_); refine call_dataE (c_laws_heldInt64SS ht) ?_ rfl ?_)
              | ((with_reducible refine here_call (f := 64) ?_); refine call_dataE (c_laws_heldInt64S ht) ?_ rfl ?_)
              | ((with_reducible refine here_call (f := 92) ?_); refine call_dataE (c_laws_szFrame ht) ?_ rfl ?_)
              | ((with_reducible refine here_call (f := 91) ?_); refine call_dataE (c_laws_szFunc ht) ?_ rfl ?_)
              | ((with_reducible refine here_call (f := 94) ?_); refine call_dataE (c_laws_toFrame ht) ?_ rfl ?_)
              | ((with_reducible refine here_call (f := 129) ?_); refine call_dataE (c_laws_toInsS ht) ?_ rfl ?_))
             · first | rfl | (simp; done))
          | ((first
              | ((with_reducible refine here_call (f := 58) ?_); refine call_obj [0] (c_laws_markFuncS ht) (by decide) ?_ ?_)
              | ((with_reducible refine here_call (f := 59) ?_); refine call_obj [0] (c_laws_markFrameS ht) (by decide) ?_ ?_)
              | ((with_reducible refine here_call (f := 60) ?_); refine call_obj [1] (c_laws_markInt64SS ht) (by decide) ?_ ?_)
              | ((with_reducible refine here_call (f := 61) ?_); refine call_obj [2] (c_laws_markInt64S ht) (by decide) ?_ ?_))
             · first | exact .inl rfl | (refine .inr ⟨?_, ?_⟩; (focus (first | rfl | (simp only [nbd, nbb, GFrame_nb, GState_nb, GI2_nb, GFunc_nb, GProgram_nb, LcIi64_nb]; done))); (focus (simp [C.nb, V.nbLL, V.nbL, V.nb, D.nb]; done)))
             simp only [obd, hyb, hyd, GFrame_lend, GState_lend, GI2_lend, GFunc_lend, GProgram_lend, LcIi64_lend, putSt, lk, lkb, reduceCtorEq, Nat.reduceEqDiff, Prog.wp, Prog.wp_bind, Prog.bind, Prog.ofO, List.take_of_length_le, *])))
     | (with_reducible (first | refine ropD (h := ?_) | refine ropW (h := ?_))
        intro k hk)
     | skip)
    simp only [RetW, bn, lkb, evb, opC, opP, fetchN, fetchP, fetchAll, fetchO, Prog.bind, Prog.wp, Prog.wp_bind, lk, nameP, nameAll, Value.oneCell', putSt, stepP, putP, reduceCtorEq, V.lin, V.linL, D.lin, isNil, binP, unP, BinOp.isShift, Prog.ofO, Nat.reduceAdd, Nat.reduceMul, Nat.reduceSub, Nat.reduceLT, Nat.reduceLeDiff, Nat.reduceEqDiff, ite_true, ite_false, fieldAddrP, fieldP, indexAddrP, loadP, storeP, boxP, allocP, cellsP, asVal, setSeg, outP, outT, cntT, TyK.field, TyK.agg, zeroRow, V.ren, V.renL, forall_eq_or_imp, forall_const, minmaxP, lenP, lenOf, lenStr, V.asInt, decide_true, decide_false, sliceP, boundP, makeSliceP, convertP, appendP, rowsOfP, ontoP, sizeFits, V.rowSize, TyK.src, resV, resV.go, resV.gol, retP, retOne, retAll, resTo, objsAre, Option.map_eq_map, Function.const_apply, Int.reduceNeg, Int.reduceToNat, ty2, ty3, ty4, ty5, ty6, ty23, ty25, ty26, ty27, ty28, ty30, ty38, ty41, ty56, ty92, ty94, ty98, ty129, ty131, ty133, ty183, GFrame.cells, GFunc.cells, GI2.cells, GProgram.cells, GState.cells, cI, cB, cS, cL, GFrame_e, GState_e, GI2_e, GFunc_e, GProgram_e, LcIi64_e, buildP, buildSliceP, putParts, structPlaces, chunks, List.replicate, List.flatten_nil, List.flatten_cons, Option.bind_some, bb, GFrame_b, GState_b, GI2_b, GFunc_b, GProgram_b, LcIi64_b, nilEqP, ne_eq, not_false_eq_true, not_true_eq_false, *]
    try (refine hk.use _ _ _ _ ?_; clear hk k))
 | fail)
  all_goals (try rfl)
  all_goals (try (simp; done))
  all_goals (try (simp_all; done))
def c_spec_l06Copy := @And.left _ _ gs18
def c_laws_eqFrameS := @And.left _ _ (@And.right _ _ gs18)
def c_laws_eqFunc := @And.left _ _ (@And.right _ _ (@And.right _ _ gs18))
def c_laws_heldState := @And.left _ _ (@And.right _ _ (@And.right _ _ (@And.right _ _ gs18)))
def c_laws_markProgram := @And.left _ _ (@And.right _ _ (@And.right _ _ (@And.right _ _ (@And.right _ _ gs18))))
def c_laws_markState := @And.left _ _ (@And.right _ _ (@And.right _ _ (@And.right _ _ (@And.right _ _ (@And.right _ _ gs18)))))
def c_laws_szFrameS := @And.left _ _ (@And.right _ _ (@And.right _ _ (@And.right _ _ (@And.right _ _ (@And.right _ _ (@And.right _ _ gs18))))))
def c_laws_szFuncS := @And.left _ _ (@And.right _ _ (@And.right _ _ (@And.right _ _ (@And.right _ _ (@And.right _ _ (@And.right _ _ (@And.right _ _ gs18)))))))
def c_laws_toFrameS := @And.left _ _ (@And.right _ _ (@And.right _ _ (@And.right _ _ (@And.right _ _ (@And.right _ _ (@And.right _ _ (@And.right _ _ (@And.right _ _ gs18))))))))
def c_laws_toFunc := (@And.right _ _ (@And.right _ _ (@And.right _ _ (@And.right _ _ (@And.right _ _ (@And.right _ _ (@And.right _ _ (@And.right _ _ (@And.right _ _ gs18)))))))))
end Go.Proofs.YtdlaplgofgklnaaGreat