/- WHAT IS PROVED: an abstract walker over the model, what some functions of the program answer, and laws of these answers. Conditions: none. -/
import Derived.Test.YtdlaplgofgklnaaGreatKf22
namespace Go.Proofs.YtdlaplgofgklnaaGreat
open Go.Proofs Go.Proofs.YtdlaplgofgklnaaGreat.L
set_option maxHeartbeats 8000000
set_option linter.unusedSimpArgs false
set_option linter.unusedVariables false
set_option maxRecDepth 100000
set_option linter.defProp false
def laws_FnRun.a1 (k : Nat) (a1 : (List Int)) (a2 : (List Int)) : Option ((Bool) ⊕ ((List Int) × (List Int))) :=
  cond ((decide (((a1.length : Int)) > 1048576))) (some (.inl (true))) (cond ((decide (((a2.length : Int)) > 1048576))) (some (.inl (true))) (some (.inr (a1, a2))))
def laws_FnRun.a3 (k : Nat) (a1 : (List GFunc)) (a2 : (List GFrame)) (a3 : (List (List Int))) (a4 : (List Int)) (a5 : Int) (a6 : Bool) (a7 : Int) (a8 : Int) (a9 : GState) (a10 : (List GFrame)) (a11 : (List (List Int))) (a12 : (List Int)) (a13 : Int) (a14 : Bool) (a15 : Int) (a16 : Int) (a17 : (List Int)) (a18 : Int) : Option (((List GFunc) × (List GFrame) × (List (List Int)) × (List Int) × Int × Bool × Int × Int × GState × (List GFrame) × (List (List Int)) × (List Int) × Int × Bool × Int × Int × (List Int) × Int) ⊕ ((List GFunc) × (List GFrame) × (List (List Int)) × (List Int) × Int × Bool × Int × Int × GState × (List GFrame) × (List (List Int)) × (List Int) × Int × Bool × Int × Int × (List Int))) :=
  cond ((decide (a18 < 12))) (cond ((!a14)) (cond ((decide (a13 > 0))) (some (.inl (a1, a2, a3, a4, a5, a6, a7, a8, a9, a10, a11, a12, a13, a14, a15, a16, a17, a18))) (some (.inr (a1, a2, a3, a4, a5, a6, a7, a8, a9, a10, a11, a12, a13, a14, a15, a16, a17)))) (some (.inr (a1, a2, a3, a4, a5, a6, a7, a8, a9, a10, a11, a12, a13, a14, a15, a16, a17)))) (some (.inr (a1, a2, a3, a4, a5, a6, a7, a8, a9, a10, a11, a12, a13, a14, a15, a16, a17)))
def laws_FnRun.l2 : Nat → (List GFunc) → (List GFrame) → (List (List Int)) → (List Int) → Int → Bool → Int → Int → GState → (List GFrame) → (List (List Int)) → (List Int) → Int → Bool → Int → Int → (List Int) → Int → Option ((Bool) ⊕ ((List GFunc) × (List GFrame) × (List (List Int)) × (List Int) × Int × Bool × Int × Int × GState × (List GFrame) × (List (List Int)) × (List Int) × Int × Bool × Int × Int × (List Int)))
  | 0, _, _, _, _, _, _, _, _, _, _, _, _, _, _, _, _, _, _ => none
  | k + 1, a1, a2, a3, a4, a5, a6, a7, a8, a9, a10, a11, a12, a13, a14, a15, a16, a17, a18 => (laws_FnRun.a3 k a1 a2 a3 a4 a5 a6 a7 a8 a9 a10 a11 a12 a13 a14 a15 a16 a17 a18).bind fun o3 => Sum.elim (fun o3l => (impl_Step k ((⟨o3l.1⟩ : GProgram)) ((⟨o3l.2.2.2.2.2.2.2.2.2.1, o3l.2.2.2.2.2.2.2.2.2.2.1, o3l.2.2.2.2.2.2.2.2.2.2.2.1, o3l.2.2.2.2.2.2.2.2.2.2.2.2.1, o3l.2.2.2.2.2.2.2.2.2.2.2.2.2.1, o3l.2.2.2.2.2.2.2.2.2.2.2.2.2.2.1, o3l.2.2.2.2.2.2.2.2.2.2.2.2.2.2.2.1⟩ : GState))).bind fun t7 => (impl_StateRight k ((⟨o3l.1⟩ : GProgram)) t7).bind fun t8 => cond ((!t8)) (some (.inl (false))) (cond ((t7.fuel0 != ((IntKind.i64.wrap (o3l.2.2.2.2.2.2.2.2.2.2.2.2.1 - 1))))) (some (.inl (false))) (laws_FnRun.l2 k o3l.1 o3l.2.1 o3l.2.2.1 o3l.2.2.2.1 o3l.2.2.2.2.1 o3l.2.2.2.2.2.1 o3l.2.2.2.2.2.2.1 o3l.2.2.2.2.2.2.2.1 o3l.2.2.2.2.2.2.2.2.1 t7.frames t7.heap t7.out t7.fuel0 t7.done t7.value t7.trap o3l.2.2.2.2.2.2.2.2.2.2.2.2.2.2.2.2.1 ((IntKind.i64.wrap (o3l.2.2.2.2.2.2.2.2.2.2.2.2.2.2.2.2.2 + 1)))))) (fun o3r => some (.inr (o3r.1, o3r.2.1, o3r.2.2.1, o3r.2.2.2.1, o3r.2.2.2.2.1, o3r.2.2.2.2.2.1, o3r.2.2.2.2.2.2.1, o3r.2.2.2.2.2.2.2.1, o3r.2.2.2.2.2.2.2.2.1, o3r.2.2.2.2.2.2.2.2.2.1, o3r.2.2.2.2.2.2.2.2.2.2.1, o3r.2.2.2.2.2.2.2.2.2.2.2.1, o3r.2.2.2.2.2.2.2.2.2.2.2.2.1, o3r.2.2.2.2.2.2.2.2.2.2.2.2.2.1, o3r.2.2.2.2.2.2.2.2.2.2.2.2.2.2.1, o3r.2.2.2.2.2.2.2.2.2.2.2.2.2.2.2.1, o3r.2.2.2.2.2.2.2.2.2.2.2.2.2.2.2.2))) o3
def laws_FnRun.a4 (k : Nat) (a1 : (List GFunc)) (a2 : (List GFrame)) (a3 : (List (List Int))) (a4 : (List Int)) (a5 : Int) (a6 : Bool) (a7 : Int) (a8 : Int) (a9 : GState) (a10 : Int) : Option ((List GFunc) × (List GFrame) × (List (List Int)) × (List Int) × Int × Bool × Int × Int × GState × Int) :=
  cond ((decide (a10 > a5))) (some (a1, a2, a3, a4, a5, a6, a7, a8, a9, a5)) (some (a1, a2, a3, a4, a5, a6, a7, a8, a9, a10))
def laws_FnRun (k : Nat) (p0 : (List Int)) (p1 : (List Int)) : Option (Bool) :=
  (laws_FnRun.a1 k p0 p1).bind fun o1 => Sum.elim (fun o1l => some o1l) (fun o1r => (spec_DrawRun k o1r.1).bind fun t1 => (spec_StateRight k t1.1 t1.2).bind fun t2 => cond ((!t2)) ((impl_StateRight k t1.1 t1.2).bind fun t3 => some ((!t3))) ((impl_Run k t1.1 t1.2).bind fun t4 => (spec_Run k t1.1 t1.2).bind fun t5 => (spec_StateSame k t4 t5).bind fun t6 => cond ((!t6)) (some false) ((laws_FnRun.l2 k t1.1.funcs t1.2.frames t1.2.heap t1.2.out t1.2.fuel0 t1.2.done t1.2.value t1.2.trap t4 t1.2.frames t1.2.heap t1.2.out t1.2.fuel0 t1.2.done t1.2.value t1.2.trap o1r.2 0).bind fun o2 => Sum.elim (fun o2l => some o2l) (fun o2r => (impl_Run k ((⟨o2r.1⟩ : GProgram)) ((⟨o2r.2.2.2.2.2.2.2.2.2.1, o2r.2.2.2.2.2.2.2.2.2.2.1, o2r.2.2.2.2.2.2.2.2.2.2.2.1, o2r.2.2.2.2.2.2.2.2.2.2.2.2.1, o2r.2.2.2.2.2.2.2.2.2.2.2.2.2.1, o2r.2.2.2.2.2.2.2.2.2.2.2.2.2.2.1, o2r.2.2.2.2.2.2.2.2.2.2.2.2.2.2.2.1⟩ : GState))).bind fun t9 => (impl_StateSame k t9 o2r.2.2.2.2.2.2.2.2.1).bind fun t10 => cond ((!t10)) (some false) ((laws_lwAt k o2r.2.2.2.2.2.2.2.2.2.2.2.2.2.2.2.2 0 256).bind fun t11 => (laws_FnRun.a4 k o2r.1 o2r.2.1 o2r.2.2.1 o2r.2.2.2.1 o2r.2.2.2.2.1 o2r.2.2.2.2.2.1 o2r.2.2.2.2.2.2.1 o2r.2.2.2.2.2.2.2.1 o2r.2.2.2.2.2.2.2.2.1 t11).bind fun o4 => (impl_Run k ((⟨o4.1⟩ : GProgram)) ((⟨o4.2.1, o4.2.2.1, o4.2.2.2.1, o4.2.2.2.2.2.2.2.2.2, o4.2.2.2.2.2.1, o4.2.2.2.2.2.2.1, o4.2.2.2.2.2.2.2.1⟩ : GState))).bind fun t12 => (impl_Run k ((⟨o4.1⟩ : GProgram)) ((⟨t12.frames, t12.heap, t12.out, (IntKind.i64.wrap (t12.fuel0 + ((IntKind.i64.wrap (o4.2.2.2.2.1 - o4.2.2.2.2.2.2.2.2.2))))), t12.done, t12.value, t12.trap⟩ : GState))).bind fun t13 => (spec_StateSame k t13 o4.2.2.2.2.2.2.2.2.1).bind fun t14 => some t14)) o2))) o1
theorem cIz_laws_FnRun (k : IntKind) (l : List Int) : D.frzLL (Rw (cI k) l) = Rw (cI k) l := Rw_frz (fun x => by simp only [cI, D.frzL, D.frz]) l
theorem c_laws_FnRun {k : Nat} {p0 : (List Int)} {p1 : (List Int)} {r : Bool} (h : laws_FnRun k p0 p1 = some r) : Con Tryz.prog 3 [.d (.row .bor 1 (Rw (cI .u8) p0)), .d (.row .bor 1 (Rw (cI .u8) p1))] [] (V.bool r) [] := by
  refine csw Tryz.func3 Tryz.call3 (by simp [Tryz.ntmps3]) (h := ?_)
  rw [Tryz.ntmps3, Tryz.results3]
  unfold laws_FnRun at h
  replace h := Yes.mk h
  simp only [entryS, entryO, Nat.reduceAdd, List.length_nil, List.length_cons]
  repeat' (first
 | (with_reducible refine here_reg (i := 17) ?_
    refine sw_gh ?_
    with_reducible apply gh_nameCell 10001024 0
    · simp only [lkd, lkb, reduceCtorEq, Nat.reduceEqDiff]; rfl
    · rfl
    simp only [List.set_cons_zero, List.set_cons_succ, Nat.reduceAdd, Rw_length]
    with_reducible apply gh_nameCell 10001024 1
    · simp only [lkd, lkb, reduceCtorEq, Nat.reduceEqDiff]; rfl
    · rfl
    simp only [List.set_cons_zero, List.set_cons_succ, Nat.reduceAdd, Rw_length]
    with_reducible apply gh_nameCell 10001024 2
    · simp only [lkd, lkb, reduceCtorEq, Nat.reduceEqDiff]; rfl
    · rfl
    simp only [List.set_cons_zero, List.set_cons_succ, Nat.reduceAdd, Rw_length]
    refine gh_sw ?_)
 | (with_reducible refine here_reg (i := 26) ?_
    refine sw_gh ?_
    with_reducible apply gh_nameCell 10001024 0
    · simp only [lkd, lkb, reduceCtorEq, Nat.reduceEqDiff]; rfl
    · rfl
    simp only [List.set_cons_zero, List.set_cons_succ, Nat.reduceAdd, Rw_length]
    with_reducible apply gh_nameCell 10001024 1
    · simp only [lkd, lkb, reduceCtorEq, Nat.reduceEqDiff]; rfl
    · rfl
    simp only [List.set_cons_zero, List.set_cons_succ, Nat.reduceAdd, Rw_length]
    with_reducible apply gh_nameCell 10001024 2
    · simp only [lkd, lkb, reduceCtorEq, Nat.reduceEqDiff]; rfl
    · rfl
    simp only [List.set_cons_zero, List.set_cons_succ, Nat.reduceAdd, Rw_length]
    refine gh_sw ?_)
 | (with_reducible (first | refine sw_reg ?_ | refine sw_ret ?_ | refine sw_skip ?_ | refine sw_block ?_ | refine sw_exit ?_ | refine seqQ_normal ?_ | refine blockQ_normal ?_ | refine blockQ_ret ?_ | refine blockQ_this ?_ | refine blockQ_other (by decide) ?_ | refine regW_nil ?_ | refine sw_draw mixed ?_ | refine retQ_ret ?_ | refine retQ_normal ?_))
 | (with_reducible refine regD_nil ?_
    refine ⟨by kernel_rfl, ?_⟩)
 | (revert h; (first | ((with_reducible refine idx_elim ?_); intro m hm1 hm2 hm3 h; (try (simp only [Int.reduceToNat] at hm3)); (try (revert hm3; (with_reducible apply same_elim); (focus (with_reducible assumption)); rintro rfl)); (try (simp only [List.length_set, List.length_cons, List.length_nil, List.length_replicate, Nat.reduceAdd, Int.cast_ofNat_Int, Nat.zero_add, List.length_append] at hm2))) | (with_reducible refine sidx_elim ?_; intro m hm1 hm3 h) | (with_reducible refine gd_elim ?_; intro hg h; try (have hg2 := hg.2; have hg := hg.1; (try (simp only [Nat.reduceLeDiff] at hg2)); (try (revert hg2; (with_reducible refine toNat_elim hg ?_); intro hg2 hg4)); try (have hg3 := hg2.2; have hg2 := hg2.1; (try (simp only [Nat.reduceLeDiff] at hg3))))) | (with_reducible refine condt_elim ?_ ?_; (focus (with_reducible assumption)); intro h) | (with_reducible refine condf_elim ?_ ?_; (focus (with_reducible assumption)); intro h)))
 | ((first | with_reducible refine seqQ_ret (K := (fun st1 n1 => Gh st1 n1 (MeetA _ 30000000 _ _))) ?_ | with_reducible refine seqQ_exit (K := (fun st1 n1 => Gh st1 n1 (MeetA _ 30000000 _ _))) ?_)
    obtain rfl := h.get
    have h := hK3
    (try (simp only [Sum.elim_inl, Sum.elim_inr] at h)))
 | ((first | with_reducible refine seqQ_ret (K := (fun st1 n1 => Gh st1 n1 (MeetA _ 40000000 _ _))) ?_ | with_reducible refine seqQ_exit (K := (fun st1 n1 => Gh st1 n1 (MeetA _ 40000000 _ _))) ?_)
    obtain rfl := h.get
    have h := hK4
    (try (simp only [Sum.elim_inl, Sum.elim_inr] at h)))
 | ((first | with_reducible refine seqQ_ret (K := (fun st1 n1 => Gh st1 n1 (NextS _ 20000000 _ _ _ _))) ?_ | with_reducible refine seqQ_exit (K := (fun st1 n1 => Gh st1 n1 (NextS _ 20000000 _ _ _ _))) ?_)
    obtain rfl := h.get
    have h := hK2
    (try (simp only [Sum.elim_inl, Sum.elim_inr] at h)))
 | ((first | with_reducible refine seqQ_ret (K := (fun st1 n1 => Gh st1 n1 (MeetA _ 10000000 _ _))) ?_ | with_reducible refine seqQ_exit (K := (fun st1 n1 => Gh st1 n1 (MeetA _ 10000000 _ _))) ?_)
    obtain rfl := h.get
    have h := hK1
    (try (simp only [Sum.elim_inl, Sum.elim_inr] at h)))
 | (with_reducible refine here_join (a := (.seq (.region 11 _ _) _)) (b := (.seq (.block 1 _) _)) ?_
    skip
    revert h
    with_reducible refine bind_elimY ?_
    intro o3 h hK3
    unfold laws_FnRun.a3 at h
    refine sw_join (ι := (List GFunc) × (List GFrame) × (List (List Int)) × (List Int) × Int × Bool × Int × Int × GState × (List GFrame) × (List (List Int)) × (List Int) × Int × Bool × Int × Int × (List Int) × Int) 30000000 (fun x : (List GFunc) × (List GFrame) × (List (List Int)) × (List Int) × Int × Bool × Int × Int × GState × (List GFrame) × (List (List Int)) × (List Int) × Int × Bool × Int × Int × (List Int) × Int => [(.s 1, some (.v (.d (.row .bor 1 (Rw (cI .u8) x.2.2.2.2.2.2.2.2.2.2.2.2.2.2.2.2.1))))), (.s 5, some (.v (.mp 10000320 1 0 0))), (.s 6, some (.v (.mp 10000384 7 0 0))), (.s 7, some (.v (.mp 10001024 7 0 0))), (.s 8, some (.v (.mp 10001600 7 0 0))), (.s 9, some (.v (V.int x.2.2.2.2.2.2.2.2.2.2.2.2.2.2.2.2.2))), (.r 10000320, some (.o 1 [[.d (.row .frz 3 (Rw (GFunc.cells .frz) x.1))]])), (.r 10000384, some (.o 7 [[.d (.row .frz 4 (Rw (GFrame.cells .frz) x.2.1)), .d (.row .frz 1 (Rw (cL .frz 1 (cI .i64)) x.2.2.1)), .d (.row .frz 1 (Rw (cI .i64) x.2.2.2.1)), V.int x.2.2.2.2.1, V.bool x.2.2.2.2.2.1, V.int x.2.2.2.2.2.2.1, V.int x.2.2.2.2.2.2.2.1]])), (.r 10001024, some (.o 7 [[.d (.row .own 4 (Rw (GFrame.cells .own) x.2.2.2.2.2.2.2.2.1.frames)), .d (.row .own 1 (Rw (cL .own 1 (cI .i64)) x.2.2.2.2.2.2.2.2.1.heap)), .d (.row .own 1 (Rw (cI .i64) x.2.2.2.2.2.2.2.2.1.out)), V.int x.2.2.2.2.2.2.2.2.1.fuel0, V.bool x.2.2.2.2.2.2.2.2.1.done, V.int x.2.2.2.2.2.2.2.2.1.value, V.int x.2.2.2.2.2.2.2.2.1.trap]])), (.r 10001600, some (.o 7 [[.d (.row .frz 4 (Rw (GFrame.cells .frz) x.2.2.2.2.2.2.2.2.2.1)), .d (.row .frz 1 (Rw (cL .frz 1 (cI .i64)) x.2.2.2.2.2.2.2.2.2.2.1)), .d (.row .frz 1 (Rw (cI .i64) x.2.2.2.2.2.2.2.2.2.2.2.1)), V.int x.2.2.2.2.2.2.2.2.2.2.2.2.1, V.bool x.2.2.2.2.2.2.2.2.2.2.2.2.2.1, V.int x.2.2.2.2.2.2.2.2.2.2.2.2.2.2.1, V.int x.2.2.2.2.2.2.2.2.2.2.2.2.2.2.2.1]]))]) (fun x => Yes (some (.inl x)) o3) ?_ ?_
    rotate_left
    rintro ⟨b1, b2, b3, b4, b5, b6, b7, b8, b9, b10, b11, b12, b13, b14, b15, b16, b17, b18⟩ h
    obtain rfl := h.get
    have h := hK3
    (try (simp only [Sum.elim_inl, Sum.elim_inr] at h))
    refine sw_gh ?_
    refine gh_sw ?_
    skip)
 | (with_reducible refine here_meet (N0 := 30000000) ?_
    skip
    refine meet_to (_, _, _, _, _, _, _, _, _, _, _, _, _, _, _, _, _, _) (by decide) ?_ h ?_
    · exact (by simp [sld])
    · simp only [SubL, lkd, lkb, reduceCtorEq, Nat.reduceEqDiff, List.length_set, List.length_replicate]; repeat' (first | apply And.intro | rfl | trivial | (simp only [*]; done)))
 | (with_reducible refine here_join (a := (.seq (.region 20 _ _) _)) (b := (.seq (.region 22 _ _) _)) ?_
    skip
    revert h
    with_reducible refine bind_elimY ?_
    intro o4 h hK4
    unfold laws_FnRun.a4 at h
    refine sw_join (ι := (List GFunc) × (List GFrame) × (List (List Int)) × (List Int) × Int × Bool × Int × Int × GState × Int) 40000000 (fun x : (List GFunc) × (List GFrame) × (List (List Int)) × (List Int) × Int × Bool × Int × Int × GState × Int => [(.s 5, some (.v (.mp 10000320 1 0 0))), (.s 6, some (.v (.mp 10000384 7 0 0))), (.s 7, some (.v (.mp 10001024 7 0 0))), (.s 11, some (.v (V.int x.2.2.2.2.2.2.2.2.2))), (.r 10000320, some (.o 1 [[.d (.row .frz 3 (Rw (GFunc.cells .frz) x.1))]])), (.r 10000384, some (.o 7 [[.d (.row .frz 4 (Rw (GFrame.cells .frz) x.2.1)), .d (.row .frz 1 (Rw (cL .frz 1 (cI .i64)) x.2.2.1)), .d (.row .frz 1 (Rw (cI .i64) x.2.2.2.1)), V.int x.2.2.2.2.1, V.bool x.2.2.2.2.2.1, V.int x.2.2.2.2.2.2.1, V.int x.2.2.2.2.2.2.2.1]])), (.r 10001024, some (.o 7 [[.d (.row .own 4 (Rw (GFrame.cells .own) x.2.2.2.2.2.2.2.2.1.frames)), .d (.row .own 1 (Rw (cL .own 1 (cI .i64)) x.2.2.2.2.2.2.2.2.1.heap)), .d (.row .own 1 (Rw (cI .i64) x.2.2.2.2.2.2.2.2.1.out)), V.int x.2.2.2.2.2.2.2.2.1.fuel0, V.bool x.2.2.2.2.2.2.2.2.1.done, V.int x.2.2.2.2.2.2.2.2.1.value, V.int x.2.2.2.2.2.2.2.2.1.trap]]))]) (fun x => Yes (some (x)) o4) ?_ ?_
    rotate_left
    rintro ⟨b1, b2, b3, b4, b5, b6, b7, b8, b9, b10⟩ h
    obtain rfl := h.get
    have h := hK4
    (try (simp only [Sum.elim_inl, Sum.elim_inr] at h))
    refine sw_gh ?_
    refine gh_sw ?_
    skip)
 | (with_reducible refine here_meet (N0 := 40000000) ?_
    skip
    (try (apply gh_resObj 10001024; (focus (simp only [lkd, lkb, reduceCtorEq, Nat.reduceEqDiff]; try rfl)); simp only [rxb, Nat.reduceAdd, Nat.reduceLeDiff, rxd, lkd, lkb, reduceCtorEq, Nat.reduceEqDiff, *, mmb, GI2_Dset, GFunc_Dset, GProgram_Dset, GFrame_Dset, GState_Dset, LcIi64_Dset]))
    refine meet_to (_, _, _, _, _, _, _, _, _, _) (by decide) ?_ h ?_
    · exact (by simp [sld])
    · simp only [SubL, lkd, lkb, reduceCtorEq, Nat.reduceEqDiff, List.length_set, List.length_replicate]; repeat' (first | apply And.intro | rfl | trivial | (simp only [*]; done)))
 | (with_reducible refine here_loop (c := (.seq (.seq (.region 11 _ _) _) _)) ?_
    skip
    revert h
    with_reducible refine bind_elimY ?_
    intro o2 h hK2
    refine sw_gh ?_
    (try (apply gh_resObj 10001024; (focus (simp only [lkd, lkb, reduceCtorEq, Nat.reduceEqDiff]; try rfl)); simp only [rxb, Nat.reduceAdd, Nat.reduceLeDiff, rxd, lkd, lkb, reduceCtorEq, Nat.reduceEqDiff, *, mmb, GI2_Dset, GFunc_Dset, GProgram_Dset, GFrame_Dset, GState_Dset, LcIi64_Dset]))
    (try (apply gh_resObj 10001600; (focus (simp only [lkd, lkb, reduceCtorEq, Nat.reduceEqDiff]; try rfl)); simp only [rxb, Nat.reduceAdd, Nat.reduceLeDiff, rxd, lkd, lkb, reduceCtorEq, Nat.reduceEqDiff, *, mmb, GI2_Dset, GFunc_Dset, GProgram_Dset, GFrame_Dset, GState_Dset, LcIi64_Dset]))
    (try (apply gh_frz 10001600 0; (focus (simp only [lkd, lkb, reduceCtorEq, Nat.reduceEqDiff]; try rfl)); (focus rfl); (focus (exact .all)); simp only [List.set_cons_zero, List.set_cons_succ, Md.fz, cIz_laws_FnRun, GI2_frz, GFunc_frz, GProgram_frz, GFrame_frz, GState_frz, LcIi64_frz]))
    (try (apply gh_frz 10001600 1; (focus (simp only [lkd, lkb, reduceCtorEq, Nat.reduceEqDiff]; try rfl)); (focus rfl); (focus (exact .all)); simp only [List.set_cons_zero, List.set_cons_succ, Md.fz, cIz_laws_FnRun, GI2_frz, GFunc_frz, GProgram_frz, GFrame_frz, GState_frz, LcIi64_frz]))
    (try (apply gh_frz 10001600 2; (focus (simp only [lkd, lkb, reduceCtorEq, Nat.reduceEqDiff]; try rfl)); (focus rfl); (focus (exact .all)); simp only [List.set_cons_zero, List.set_cons_succ, Md.fz, cIz_laws_FnRun, GI2_frz, GFunc_frz, GProgram_frz, GFrame_frz, GState_frz, LcIi64_frz]))
    refine gh_sw ?_
    refine sw_loop (ι := Nat × (List GFunc) × (List GFrame) × (List (List Int)) × (List Int) × Int × Bool × Int × Int × GState × (List GFrame) × (List (List Int)) × (List Int) × Int × Bool × Int × Int × (List Int) × Int) 20000000 (by decide) (fun x : Nat × (List GFunc) × (List GFrame) × (List (List Int)) × (List Int) × Int × Bool × Int × Int × GState × (List GFrame) × (List (List Int)) × (List Int) × Int × Bool × Int × Int × (List Int) × Int => [(.s 1, some (.v (.d (.row .bor 1 (Rw (cI .u8) x.2.2.2.2.2.2.2.2.2.2.2.2.2.2.2.2.2.1))))), (.s 5, some (.v (.mp 10000320 1 0 0))), (.s 6, some (.v (.mp 10000384 7 0 0))), (.s 7, some (.v (.mp 10001024 7 0 0))), (.s 8, some (.v (.mp 10001600 7 0 0))), (.s 9, some (.v (V.int x.2.2.2.2.2.2.2.2.2.2.2.2.2.2.2.2.2.2))), (.r 10000320, some (.o 1 [[.d (.row .frz 3 (Rw (GFunc.cells .frz) x.2.1))]])), (.r 10000384, some (.o 7 [[.d (.row .frz 4 (Rw (GFrame.cells .frz) x.2.2.1)), .d (.row .frz 1 (Rw (cL .frz 1 (cI .i64)) x.2.2.2.1)), .d (.row .frz 1 (Rw (cI .i64) x.2.2.2.2.1)), V.int x.2.2.2.2.2.1, V.bool x.2.2.2.2.2.2.1, V.int x.2.2.2.2.2.2.2.1, V.int x.2.2.2.2.2.2.2.2.1]])), (.r 10001024, some (.o 7 [[.d (.row .own 4 (Rw (GFrame.cells .own) x.2.2.2.2.2.2.2.2.2.1.frames)), .d (.row .own 1 (Rw (cL .own 1 (cI .i64)) x.2.2.2.2.2.2.2.2.2.1.heap)), .d (.row .own 1 (Rw (cI .i64) x.2.2.2.2.2.2.2.2.2.1.out)), V.int x.2.2.2.2.2.2.2.2.2.1.fuel0, V.bool x.2.2.2.2.2.2.2.2.2.1.done, V.int x.2.2.2.2.2.2.2.2.2.1.value, V.int x.2.2.2.2.2.2.2.2.2.1.trap]])), (.r 10001600, some (.o 7 [[.d (.row .frz 4 (Rw (GFrame.cells .frz) x.2.2.2.2.2.2.2.2.2.2.1)), .d (.row .frz 1 (Rw (cL .frz 1 (cI .i64)) x.2.2.2.2.2.2.2.2.2.2.2.1)), .d (.row .frz 1 (Rw (cI .i64) x.2.2.2.2.2.2.2.2.2.2.2.2.1)), V.int x.2.2.2.2.2.2.2.2.2.2.2.2.2.1, V.bool x.2.2.2.2.2.2.2.2.2.2.2.2.2.2.1, V.int x.2.2.2.2.2.2.2.2.2.2.2.2.2.2.2.1, V.int x.2.2.2.2.2.2.2.2.2.2.2.2.2.2.2.2.1]]))]) (fun x => x.1) (fun x => Yes (laws_FnRun.l2 x.1 x.2.1 x.2.2.1 x.2.2.2.1 x.2.2.2.2.1 x.2.2.2.2.2.1 x.2.2.2.2.2.2.1 x.2.2.2.2.2.2.2.1 x.2.2.2.2.2.2.2.2.1 x.2.2.2.2.2.2.2.2.2.1 x.2.2.2.2.2.2.2.2.2.2.1 x.2.2.2.2.2.2.2.2.2.2.2.1 x.2.2.2.2.2.2.2.2.2.2.2.2.1 x.2.2.2.2.2.2.2.2.2.2.2.2.2.1 x.2.2.2.2.2.2.2.2.2.2.2.2.2.2.1 x.2.2.2.2.2.2.2.2.2.2.2.2.2.2.2.1 x.2.2.2.2.2.2.2.2.2.2.2.2.2.2.2.2.1 x.2.2.2.2.2.2.2.2.2.2.2.2.2.2.2.2.2.1 x.2.2.2.2.2.2.2.2.2.2.2.2.2.2.2.2.2.2) o2) (_, _, _, _, _, _, _, _, _, _, _, _, _, _, _, _, _, _, _) ?_ h ?_ ?_
    · exact (by simp [sld])
    · simp only [SubL, lkd, lkb, reduceCtorEq, Nat.reduceEqDiff, List.length_set, List.length_replicate]; repeat' (first | apply And.intro | rfl | trivial | (simp only [*]; done))
    rintro ⟨_ | k, a1, a2, a3, a4, a5, a6, a7, a8, a9, a10, a11, a12, a13, a14, a15, a16, a17, a18⟩ h
    · simp only [laws_FnRun.l2] at h; exact h.none
    simp only [laws_FnRun.l2] at h
)
 | (with_reducible refine here_next (N0 := 20000000) ?_
    skip
    (try (apply gh_resObj 10001024; (focus (simp only [lkd, lkb, reduceCtorEq, Nat.reduceEqDiff]; try rfl)); simp only [rxb, Nat.reduceAdd, Nat.reduceLeDiff, rxd, lkd, lkb, reduceCtorEq, Nat.reduceEqDiff, *, mmb, GI2_Dset, GFunc_Dset, GProgram_Dset, GFrame_Dset, GState_Dset, LcIi64_Dset]))
    (try (apply gh_resObj 10001600; (focus (simp only [lkd, lkb, reduceCtorEq, Nat.reduceEqDiff]; try rfl)); simp only [rxb, Nat.reduceAdd, Nat.reduceLeDiff, rxd, lkd, lkb, reduceCtorEq, Nat.reduceEqDiff, *, mmb, GI2_Dset, GFunc_Dset, GProgram_Dset, GFrame_Dset, GState_Dset, LcIi64_Dset]))
    (try (apply gh_frz 10001600 0; (focus (simp only [lkd, lkb, reduceCtorEq, Nat.reduceEqDiff]; try rfl)); (focus rfl); (focus (exact .all)); simp only [List.set_cons_zero, List.set_cons_succ, Md.fz, cIz_laws_FnRun, GI2_frz, GFunc_frz, GProgram_frz, GFrame_frz, GState_frz, LcIi64_frz]))
    (try (apply gh_frz 10001600 1; (focus (simp only [lkd, lkb, reduceCtorEq, Nat.reduceEqDiff]; try rfl)); (focus rfl); (focus (exact .all)); simp only [List.set_cons_zero, List.set_cons_succ, Md.fz, cIz_laws_FnRun, GI2_frz, GFunc_frz, GProgram_frz, GFrame_frz, GState_frz, LcIi64_frz]))
    (try (apply gh_frz 10001600 2; (focus (simp only [lkd, lkb, reduceCtorEq, Nat.reduceEqDiff]; try rfl)); (focus rfl); (focus (exact .all)); simp only [List.set_cons_zero, List.set_cons_succ, Md.fz, cIz_laws_FnRun, GI2_frz, GFunc_frz, GProgram_frz, GFrame_frz, GState_frz, LcIi64_frz]))
    refine nexts_to (_, _, _, _, _, _, _, _, _, _, _, _, _, _, _, _, _, _, _) (by decide) ?_ (Nat.lt_succ_self _) h ?_
    · exact (by simp [sld])
    · simp only [SubL, lkd, lkb, reduceCtorEq, Nat.reduceEqDiff, List.length_set, List.length_replicate]; repeat' (first | apply And.intro | rfl | trivial | (simp only [*]; done)))
 | (with_reducible refine here_join (a := (.seq (.region 1 _ _) _)) (b := (.seq (.region 3 _ _) _)) ?_
    skip
    revert h
    with_reducible refine bind_elimY ?_
    intro o1 h hK1
    unfold laws_FnRun.a1 at h
    refine sw_join (ι := (List Int) × (List Int)) 10000000 (fun x : (List Int) × (List Int) => [(.s 0, some (.v (.d (.row .bor 1 (Rw (cI .u8) x.1))))), (.s 1, some (.v (.d (.row .bor 1 (Rw (cI .u8) x.2)))))]) (fun x => Yes (some (.inr x)) o1) ?_ ?_
    rotate_left
    rintro ⟨b1, b2⟩ h
    obtain rfl := h.get
    have h := hK1
    (try (simp only [Sum.elim_inl, Sum.elim_inr] at h))
    refine sw_gh ?_
    refine gh_sw ?_
    skip)
 | (with_reducible refine here_meet (N0 := 10000000) ?_
    skip
    refine meet_to (_, _) (by decide) ?_ h ?_
    · exact (by simp [sld])
    · simp only [SubL, lkd, lkb, reduceCtorEq, Nat.reduceEqDiff, List.length_set, List.length_replicate]; repeat' (first | apply And.intro | rfl | trivial | (simp only [*]; done)))
 | with_reducible refine sw_seq ?_
 | with_reducible refine seqQ_ret ?_
 | with_reducible refine seqQ_exit ?_
 | ((with_reducible refine wp_ite ?_ ?_)
    all_goals (intro hc; (try (simp only [Bool.not_eq_true, Bool.not_eq_false] at hc)); simp only [hc]))
 | (with_reducible refine rskip (hs := ?_) (h2 := ?_)
    · simp only [lkd, lkb, reduceCtorEq, Nat.reduceEqDiff]; done)
 | (with_reducible refine ryes (hs := ?_) (h := ?_)
    · simp only [lkd, lkb, reduceCtorEq, Nat.reduceEqDiff]; done)
 | (with_reducible refine rno (hs := ?_) (h := ?_)
    · simp only [lkd, lkb, reduceCtorEq, Nat.reduceEqDiff, Bool.not_true, Bool.not_false]; done)
 | (with_reducible apply regW_guardN
    · simp only [dstOk, Nat.reduceLT]
    · rfl
    · simp only [lkd, lkb, reduceCtorEq, Nat.reduceEqDiff]; rfl
    all_goals (intro hc; (try (simp only [Bool.not_true, Bool.not_false] at hc))))
 | (with_reducible apply sw_cond
    · simp only [lkd, lkb, reduceCtorEq, Nat.reduceEqDiff]; rfl
    all_goals (intro hc; try (cases hc; done)))
 | ((first
     | ((with_reducible refine gh_ret ?_)
        revert h
        with_reducible refine some_elim ?_
        rintro rfl)
     | (with_reducible refine here_call ?_
        revert h
        with_reducible refine bind_elim ?_
        intro t ht h
        (first
          | ((with_reducible refine here_call (f := 6) ?_)
             refine call_dataE (c_spec_DrawRun ht) ?_ rfl ?_
             · first | rfl | (simp; done))
          | ((with_reducible refine here_call (f := 7) ?_)
             refine call_obj [] (c_spec_StateRight ht) (by decide) ?_ ?_
             · first | exact .inl rfl | (refine .inr ⟨?_, ?_⟩; (focus (first | rfl | (simp only [nbd, nbb, GI2_nb, GFunc_nb, GProgram_nb, GFrame_nb, GState_nb, LcIi64_nb]; done))); (focus (simp [C.nb, V.nbLL, V.nbL, V.nb, D.nb]; done)))
             simp only [obd, hyb, hyd, GI2_lend, GFunc_lend, GProgram_lend, GFrame_lend, GState_lend, LcIi64_lend, lkd, lkb, reduceCtorEq, Nat.reduceEqDiff, Prog.wp, Prog.wp_bind, Prog.bind, Prog.ofO, List.take_of_length_le, *])
          | ((with_reducible refine here_call (f := 8) ?_)
             refine call_obj [] (c_impl_StateRight ht) (by decide) ?_ ?_
             · first | exact .inl rfl | (refine .inr ⟨?_, ?_⟩; (focus (first | rfl | (simp only [nbd, nbb, GI2_nb, GFunc_nb, GProgram_nb, GFrame_nb, GState_nb, LcIi64_nb]; done))); (focus (simp [C.nb, V.nbLL, V.nbL, V.nb, D.nb]; done)))
             simp only [obd, hyb, hyd, GI2_lend, GFunc_lend, GProgram_lend, GFrame_lend, GState_lend, LcIi64_lend, lkd, lkb, reduceCtorEq, Nat.reduceEqDiff, Prog.wp, Prog.wp_bind, Prog.bind, Prog.ofO, List.take_of_length_le, *])
          | ((with_reducible refine here_call (f := 9) ?_)
             refine call_obj [] (c_impl_Run ht) (by decide) ?_ ?_
             · first | exact .inl rfl | (refine .inr ⟨?_, ?_⟩; (focus (first | rfl | (simp only [nbd, nbb, GI2_nb, GFunc_nb, GProgram_nb, GFrame_nb, GState_nb, LcIi64_nb]; done))); (focus (simp [C.nb, V.nbLL, V.nbL, V.nb, D.nb]; done)))
             simp only [obd, hyb, hyd, GI2_lend, GFunc_lend, GProgram_lend, GFrame_lend, GState_lend, LcIi64_lend, lkd, lkb, reduceCtorEq, Nat.reduceEqDiff, Prog.wp, Prog.wp_bind, Prog.bind, Prog.ofO, List.take_of_length_le, *])
          | ((with_reducible refine here_call (f := 10) ?_)
             refine call_autoE (c_spec_StateSame ht) ?_ ?_ ?_
             · simp only [hyb, hyd, GI2_lend, GFunc_lend, GProgram_lend, GFrame_lend, GState_lend, LcIi64_lend, List.take_of_length_le, lkd, lkb, reduceCtorEq, Nat.reduceEqDiff, *]; first | rfl | done
             · first | rfl | (simp only [nbd, nbb, GI2_nb, GFunc_nb, GProgram_nb, GFrame_nb, GState_nb, LcIi64_nb]; done)
             simp only [V.namesOf, V.namesOfL, List.foldl_cons, List.foldl_nil, List.nil_append, List.append_nil, List.cons_append])
          | ((with_reducible refine here_call (f := 11) ?_)
             refine call_obj [] (c_spec_Run ht) (by decide) ?_ ?_
             · first | exact .inl rfl | (refine .inr ⟨?_, ?_⟩; (focus (first | rfl | (simp only [nbd, nbb, GI2_nb, GFunc_nb, GProgram_nb, GFrame_nb, GState_nb, LcIi64_nb]; done))); (focus (simp [C.nb, V.nbLL, V.nbL, V.nb, D.nb]; done)))
             simp only [obd, hyb, hyd, GI2_lend, GFunc_lend, GProgram_lend, GFrame_lend, GState_lend, LcIi64_lend, lkd, lkb, reduceCtorEq, Nat.reduceEqDiff, Prog.wp, Prog.wp_bind, Prog.bind, Prog.ofO, List.take_of_length_le, *])
          | ((with_reducible refine here_call (f := 12) ?_)
             refine call_obj [] (c_impl_Step ht) (by decide) ?_ ?_
             · first | exact .inl rfl | (refine .inr ⟨?_, ?_⟩; (focus (first | rfl | (simp only [nbd, nbb, GI2_nb, GFunc_nb, GProgram_nb, GFrame_nb, GState_nb, LcIi64_nb]; done))); (focus (simp [C.nb, V.nbLL, V.nbL, V.nb, D.nb]; done)))
             simp only [obd, hyb, hyd, GI2_lend, GFunc_lend, GProgram_lend, GFrame_lend, GState_lend, LcIi64_lend, lkd, lkb, reduceCtorEq, Nat.reduceEqDiff, Prog.wp, Prog.wp_bind, Prog.bind, Prog.ofO, List.take_of_length_le, *])
          | ((with_reducible refine here_call (f := 13) ?_)
             refine call_autoE (c_impl_StateSame ht) ?_ ?_ ?_
             · simp only [hyb, hyd, GI2_lend, GFunc_lend, GProgram_lend, GFrame_lend, GState_lend, LcIi64_lend, List.take_of_length_le, lkd, lkb, reduceCtorEq, Nat.reduceEqDiff, *]; first | rfl | done
             · first | rfl | (simp only [nbd, nbb, GI2_nb, GFunc_nb, GProgram_nb, GFrame_nb, GState_nb, LcIi64_nb]; done)
             simp only [V.namesOf, V.namesOfL, List.foldl_cons, List.foldl_nil, List.nil_append, List.append_nil, List.cons_append])
          | ((with_reducible refine here_call (f := 14) ?_)
             refine call_dataE (c_laws_lwAt ht) ?_ rfl ?_
             · first | rfl | (simp; done))))
     | (with_reducible (first | refine ropD (h := ?_) | refine ropW (h := ?_))
        intro k hk)
     | skip)
    simp only [or_true, true_and, List.contains_nil, Bool.not_false, List.filter_cons, List.filter_nil, if_true, List.mem_cons, true_or, false_or, bn, lkb, evb, evd, Value.oneCell', setSeg, reduceCtorEq, Nat.reduceAdd, Nat.reduceMul, Nat.reduceSub, Nat.reduceLT, Nat.reduceLeDiff, Nat.reduceEqDiff, Int.reduceNeg, Int.reduceToNat, ty2, ty3, ty4, ty5, ty22, ty23, ty25, ty26, ty27, ty28, ty30, ty56, ty92, ty94, ty98, GFrame.cells, GFunc.cells, GI2.cells, GProgram.cells, GState.cells, cI, cB, cS, cL, GI2_e, GFunc_e, GProgram_e, GFrame_e, GState_e, LcIi64_e, or_true, *]
    try (refine hk.use _ _ _ _ ?_; clear hk k))
 | fail)
  all_goals (try rfl)
  all_goals (try (simp; done))
  all_goals (try (simp_all; done))
end Go.Proofs.YtdlaplgofgklnaaGreat