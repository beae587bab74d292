/- WHAT IS PROVED: an abstract walker over the model, what some functions of the program answer, and laws of these answers. Conditions: none. -/
import Derived.Test.YtdlaplgofgklnaaGreatKf10
namespace Go.Proofs.YtdlaplgofgklnaaGreat
open Go.Proofs Go.Proofs.YtdlaplgofgklnaaGreat.L
set_option maxHeartbeats 8000000
set_option linter.unusedSimpArgs false
set_option linter.unusedVariables false
set_option maxRecDepth 100000
set_option linter.defProp false
def spec_l04Heights.l1 : Nat → (List GFunc) → GI3 → (List Int) → Int → (List GI2) → Int → Option ((List GFunc) × GI3 × (List Int) × Int × (List GI2))
  | 0, _, _, _, _, _, _ => none
  | k + 1, a1, a2, a3, a4, a5, a6 => cond ((decide (a6 < ((a3.length : Int))))) ((idx a3 a6).bind fun m2 => spec_l04Heights.l1 k a1 a2 ((a3.set a6.toNat ((-1)))) a4 a5 ((IntKind.i64.wrap (a6 + 1)))) (some (a1, a2, a3, a4, a5))
def spec_l04Heights.a3 (k : Nat) (a1 : (List GFunc)) (a2 : GI3) (a3 : (List Int)) (a4 : (List Bool)) (a5 : GI2) (a6 : GI3) (a7 : Int) (a8 : (List GI2)) (a9 : Int) (a10 : Int) (a11 : Int) : Option (((List Int) × GI3) ⊕ ((List GFunc) × GI3 × (List Int) × (List Bool) × GI2 × GI3 × Int × (List GI2) × Int × Int)) :=
  (idx a3 a9).bind fun m11 => cond ((decide (a10 > m11))) (some (.inl (a3, a6))) (cond ((decide (a11 > 8))) (some (.inl (a3, a6))) (some (.inr (a1, a2, a3, a4, a5, a6, a7, a8, a9, a11))))
def spec_l04Heights.a4 (k : Nat) (a1 : (List GFunc)) (a2 : GI3) (a3 : (List Int)) (a4 : (List Bool)) (a5 : GI2) (a6 : GI3) (a7 : (List Int)) (a8 : Int) (a9 : (List GI2)) (a10 : Int) (a11 : Int) : Option ((List GFunc) × GI3 × (List Int) × (List Bool) × GI2 × GI3 × Int × (List GI2) × Int × (List Int)) :=
  cond ((a5.a != 30)) (cond ((a5.a != 33)) (gd ((a7.length + 1) * 8 ≤ 35184372088832 ∧ a7.length + 1 ≤ 35184372088832) (some (a1, a2, a3, a4, a5, a6, a8, a9, a11, (a7 ++ [(IntKind.i64.wrap (a10 + 1))])))) (some (a1, a2, a3, a4, a5, a6, a8, a9, a11, a7))) (some (a1, a2, a3, a4, a5, a6, a8, a9, a11, a7))
def spec_l04Heights.a5 (k : Nat) (a1 : (List GFunc)) (a2 : GI3) (a3 : (List Int)) (a4 : (List Bool)) (a5 : GI2) (a6 : GI3) (a7 : (List Int)) (a8 : Int) (a9 : (List GI2)) (a10 : Int) : Option ((List GFunc) × GI3 × (List Int) × (List Bool) × GI3 × Int × (List GI2) × Int × (List Int)) :=
  cond ((a5.a == 30)) (gd ((a7.length + 1) * 8 ≤ 35184372088832 ∧ a7.length + 1 ≤ 35184372088832) (some (a1, a2, a3, a4, a6, a8, a9, a10, (a7 ++ [a5.b])))) (cond ((a5.a == 31)) (gd ((a7.length + 1) * 8 ≤ 35184372088832 ∧ a7.length + 1 ≤ 35184372088832) (some (a1, a2, a3, a4, a6, a8, a9, a10, (a7 ++ [a5.b])))) (some (a1, a2, a3, a4, a6, a8, a9, a10, a7)))
def spec_l04Heights.a7 (k : Nat) (a1 : (List GFunc)) (a2 : GI3) (a3 : (List Int)) (a4 : (List Bool)) (a5 : GI3) (a6 : (List Int)) (a7 : Int) (a8 : (List GI2)) (a9 : Int) (a10 : Int) : Option (((List Int) × GI3) ⊕ ((List GFunc) × GI3 × (List Int) × (List Bool) × GI3 × (List Int) × Int × (List GI2) × Int × Int)) :=
  (idx a6 a10).bind fun m13 => (idx a3 m13).bind fun m14 => cond ((decide (m14 ≥ 0))) (cond ((m14 != a9)) (some (.inl (a3, a5))) (some (.inr (a1, a2, a3, a4, a5, a6, a7, a8, a9, a10)))) (some (.inr (a1, a2, a3, a4, a5, a6, a7, a8, a9, a10)))
def spec_l04Heights.l6 : Nat → (List GFunc) → GI3 → (List Int) → (List Bool) → GI3 → (List Int) → Int → (List GI2) → Int → Int → Option (((List Int) × GI3) ⊕ ((List GFunc) × GI3 × (List Int) × (List Bool) × Int × (List GI2)))
  | 0, _, _, _, _, _, _, _, _, _, _ => none
  | k + 1, a1, a2, a3, a4, a5, a6, a7, a8, a9, a10 => cond ((decide (a10 < ((a6.length : Int))))) ((idx a6 a10).bind fun m12 => cond ((decide (m12 ≥ ((a8.length : Int))))) (some (.inl (a3, (⟨a5.a, a5.b, 6⟩ : GI3)))) ((spec_l04Heights.a7 k a1 a2 a3 a4 a5 a6 a7 a8 a9 a10).bind fun o7 => Sum.elim (fun o7l => some (.inl (o7l.1, o7l.2))) (fun o7r => (idx o7r.2.2.2.2.2.1 o7r.2.2.2.2.2.2.2.2.2).bind fun m15 => (idx o7r.2.2.1 m15).bind fun m16 => cond ((decide (m16 < 0))) ((idx o7r.2.2.2.1 m15).bind fun m17 => spec_l04Heights.l6 k o7r.1 o7r.2.1 ((o7r.2.2.1.set m15.toNat o7r.2.2.2.2.2.2.2.2.1)) ((o7r.2.2.2.1.set m15.toNat true)) o7r.2.2.2.2.1 o7r.2.2.2.2.2.1 o7r.2.2.2.2.2.2.1 o7r.2.2.2.2.2.2.2.1 o7r.2.2.2.2.2.2.2.2.1 ((IntKind.i64.wrap (o7r.2.2.2.2.2.2.2.2.2 + 1)))) (spec_l04Heights.l6 k o7r.1 o7r.2.1 o7r.2.2.1 o7r.2.2.2.1 o7r.2.2.2.2.1 o7r.2.2.2.2.2.1 o7r.2.2.2.2.2.2.1 o7r.2.2.2.2.2.2.2.1 o7r.2.2.2.2.2.2.2.2.1 ((IntKind.i64.wrap (o7r.2.2.2.2.2.2.2.2.2 + 1))))) o7)) (some (.inr (a1, a2, a3, a4, a7, a8)))
def spec_l04Heights.l2 : Nat → (List GFunc) → GI3 → (List Int) → (List Bool) → Int → (List GI2) → Option ((List Int) × GI3)
  | 0, _, _, _, _, _, _ => none
  | k + 1, a1, a2, a3, a4, a5, a6 => (spec_l04Least k a4).bind fun t5 => cond ((decide (t5 < 0))) (some (a3, (⟨0, 0, 0⟩ : GI3))) ((idx a4 t5).bind fun m6 => (idx a6 t5).bind fun m7 => (spec_Takes k ((⟨a1⟩ : GProgram)) m7).bind fun t8 => (idx a3 t5).bind fun m9 => (spec_Puts k m7).bind fun t10 => (spec_l04Heights.a3 k a1 a2 a3 ((a4.set t5.toNat false)) m7 ((⟨a5, t5, 5⟩ : GI3)) a5 a6 t5 t8 ((IntKind.i64.wrap (((IntKind.i64.wrap (m9 - t8))) + t10)))).bind fun o3 => Sum.elim (fun o3l => some (o3l.1, o3l.2)) (fun o3r => (spec_l04Heights.a4 k o3r.1 o3r.2.1 o3r.2.2.1 o3r.2.2.2.1 o3r.2.2.2.2.1 o3r.2.2.2.2.2.1 [] o3r.2.2.2.2.2.2.1 o3r.2.2.2.2.2.2.2.1 o3r.2.2.2.2.2.2.2.2.1 o3r.2.2.2.2.2.2.2.2.2).bind fun o4 => (spec_l04Heights.a5 k o4.1 o4.2.1 o4.2.2.1 o4.2.2.2.1 o4.2.2.2.2.1 o4.2.2.2.2.2.1 o4.2.2.2.2.2.2.2.2.2 o4.2.2.2.2.2.2.1 o4.2.2.2.2.2.2.2.1 o4.2.2.2.2.2.2.2.2.1).bind fun o5 => (spec_l04Heights.l6 k o5.1 o5.2.1 o5.2.2.1 o5.2.2.2.1 o5.2.2.2.2.1 o5.2.2.2.2.2.2.2.2 o5.2.2.2.2.2.1 o5.2.2.2.2.2.2.1 o5.2.2.2.2.2.2.2.1 0).bind fun o6 => Sum.elim (fun o6l => some (o6l.1, o6l.2)) (fun o6r => spec_l04Heights.l2 k o6r.1 o6r.2.1 o6r.2.2.1 o6r.2.2.2.1 o6r.2.2.2.2.1 o6r.2.2.2.2.2) o6) o3)
def spec_l04Heights (k : Nat) (p0 : GProgram) (p1 : Int) : Option ((List Int) × GI3) :=
  (idx p0.funcs p1).bind fun m1 => gd (0 ≤ (m1.code.length : Int) ∧ ((m1.code.length : Int)) * 8 ≤ 35184372088832 ∧ (m1.code.length : Int) ≤ 35184372088832) ((spec_l04Heights.l1 k p0.funcs ((⟨0, 0, 0⟩ : GI3)) ((List.replicate m1.code.length 0)) p1 m1.code 0).bind fun o1 => (idx o1.2.2.1 0).bind fun m3 => gd (0 ≤ (o1.2.2.2.2.length : Int) ∧ ((o1.2.2.2.2.length : Int)) * 1 ≤ 35184372088832 ∧ (o1.2.2.2.2.length : Int) ≤ 35184372088832) ((idx ((List.replicate o1.2.2.2.2.length false)) 0).bind fun m4 => (spec_l04Heights.l2 k o1.1 o1.2.1 ((o1.2.2.1.set 0 0)) ((((List.replicate o1.2.2.2.2.length false)).set 0 true)) o1.2.2.2.1 o1.2.2.2.2).bind fun o2 => some (o2.1, o2.2)))
def spec_l06Copy.l1 : Nat → (List GFrame) → (List (List Int)) → (List Int) → Int → Bool → Int → Int → GState → GState → Int → Option ((List GFrame) × (List (List Int)) × (List Int) × Int × Bool × Int × Int × GState × GState)
  | 0, _, _, _, _, _, _, _, _, _, _ => none
  | k + 1, a1, a2, a3, a4, a5, a6, a7, a8, a9, a10 => cond ((decide (a10 < ((a1.length : Int))))) ((idx a1 a10).bind fun m2 => (spec_l06CopyFrame m2).bind fun t3 => gd ((a9.frames.length + 1) * 64 ≤ 35184372088832 ∧ a9.frames.length + 1 ≤ 35184372088832) (spec_l06Copy.l1 k a1 a2 a3 a4 a5 a6 a7 a8 ((⟨(a9.frames ++ [t3]), a9.heap, a9.out, a9.fuel0, a9.done, a9.value, a9.trap⟩ : GState)) ((IntKind.i64.wrap (a10 + 1))))) (some (a1, a2, a3, a4, a5, a6, a7, a8, a9))
def spec_l06Copy.l2 : Nat → (List GFrame) → (List (List Int)) → (List Int) → Int → Bool → Int → Int → GState → GState → Int → Option (GState × GState)
  | 0, _, _, _, _, _, _, _, _, _, _ => none
  | k + 1, a1, a2, a3, a4, a5, a6, a7, a8, a9, a10 => cond ((decide (a10 < ((a2.length : Int))))) ((idx a2 a10).bind fun m4 => (spec_l06Nums m4).bind fun t5 => gd ((a9.heap.length + 1) * 24 ≤ 35184372088832 ∧ a9.heap.length + 1 ≤ 35184372088832) (spec_l06Copy.l2 k a1 a2 a3 a4 a5 a6 a7 a8 ((⟨a9.frames, (a9.heap ++ [t5]), a9.out, a9.fuel0, a9.done, a9.value, a9.trap⟩ : GState)) ((IntKind.i64.wrap (a10 + 1))))) (some (a8, a9))
def spec_l06Copy (k : Nat) (p0 : GState) : Option (GState) :=
  (spec_l06Nums p0.out).bind fun t1 => (spec_l06Copy.l1 k p0.frames p0.heap p0.out p0.fuel0 p0.done p0.value p0.trap ((⟨[], [], [], 0, false, 0, 0⟩ : GState)) ((⟨[], [], t1, p0.fuel0, p0.done, p0.value, p0.trap⟩ : GState)) 0).bind fun o1 => (spec_l06Copy.l2 k o1.1 o1.2.1 o1.2.2.1 o1.2.2.2.1 o1.2.2.2.2.1 o1.2.2.2.2.2.1 o1.2.2.2.2.2.2.1 o1.2.2.2.2.2.2.2.1 o1.2.2.2.2.2.2.2.2 0).bind fun o2 => some o2.2
theorem gr15 : (∀ {k : Nat} {p0 : GProgram} {p1 : Int} {r : (List Int) × GI3}, spec_l04Heights k p0 p1 = some r → Con Tryz.prog 69 [.agg [.d (.row .bor 3 (Rw (GFunc.cells .bor) p0.funcs))], V.int p1] [] (.tup [.d (.row .own 1 (Rw (cI .i64) r.1)), .agg [V.int r.2.a, V.int r.2.b, V.int r.2.c]]) []) ∧
  (∀ {k : Nat} {p0 : GState} {r : GState}, spec_l06Copy k p0 = some r → Con Tryz.prog 39 [.agg [.d (.row .bor 4 (Rw (GFrame.cells .bor) p0.frames)), .d (.row .bor 1 (Rw (cL .bor 1 (cI .i64)) p0.heap)), .d (.row .bor 1 (Rw (cI .i64) p0.out)), V.int p0.fuel0, V.bool p0.done, V.int p0.value, V.int p0.trap]] [] (.agg [.d (.row .own 4 (Rw (GFrame.cells .own) r.frames)), .d (.row .own 1 (Rw (cL .own 1 (cI .i64)) r.heap)), .d (.row .own 1 (Rw (cI .i64) r.out)), V.int r.fuel0, V.bool r.done, V.int r.value, V.int r.trap]) []) := by
  refine ⟨?_, ?_⟩
  all_goals intros
  all_goals rename_i h
  all_goals first
    | (with_reducible refine isf 69 ?_
       refine csw Tryz.func69 Tryz.call69 (by simp [Tryz.ntmps69]) (h := ?_)
       refine mkf 69 fun hF => ?_
       rw [Tryz.ntmps69, Tryz.results69]
       unfold spec_l04Heights at h)
    | (with_reducible refine isf 39 ?_
       refine csw Tryz.func39 Tryz.call39 (by simp [Tryz.ntmps39]) (h := ?_)
       refine mkf 39 fun hF => ?_
       rw [Tryz.ntmps39, Tryz.results39]
       unfold spec_l06Copy at h)
  all_goals (replace h := Yes.mk h; simp only [entryS, entryO, Nat.reduceAdd, List.length_nil, List.length_cons])
  repeat' (first
 | ((with_reducible refine fi 39 ?_ ?_); (focus (with_reducible assumption))
    first
    | (with_reducible refine here_reg (i := 5) ?_
       refine sw_gh ?_
       with_reducible apply gh_nameCell 896 0
       · simp only [lkd, lkb, reduceCtorEq, Nat.reduceEqDiff]; rfl
       · rfl
       simp only [List.set_cons_zero, List.set_cons_succ, Nat.reduceAdd, Rw_length]
       refine gh_sw ?_)
    | (with_reducible refine here_reg (i := 9) ?_
       refine sw_gh ?_
       with_reducible apply gh_nameCell 896 1
       · simp only [lkd, lkb, reduceCtorEq, Nat.reduceEqDiff]; rfl
       · rfl
       simp only [List.set_cons_zero, List.set_cons_succ, Nat.reduceAdd, Rw_length]
       refine gh_sw ?_))
 | (with_reducible (first | refine sw_reg ?_ | refine sw_ret ?_ | refine sw_skip ?_ | refine sw_block ?_ | refine sw_exit ?_ | refine seqQ_normal ?_ | refine blockQ_normal ?_ | refine blockQ_ret ?_ | refine blockQ_this ?_ | refine blockQ_other (by decide) ?_ | refine regW_nil ?_ | refine sw_draw mixed ?_ | refine retQ_ret ?_ | refine retQ_normal ?_))
 | (with_reducible refine regD_nil ?_
    refine ⟨by kernel_rfl, ?_⟩)
 | (revert h; (first | ((with_reducible refine idx_elim ?_); intro m hm1 hm2 hm3 h; (try (simp only [Int.reduceToNat] at hm3)); (try (revert hm3; (with_reducible apply same_elim); (focus (with_reducible assumption)); rintro rfl)); (try (simp only [List.length_set, List.length_cons, List.length_nil, List.length_replicate, Nat.reduceAdd, Int.cast_ofNat_Int, Nat.zero_add, List.length_append] at hm2))) | (with_reducible refine sidx_elim ?_; intro m hm1 hm3 h) | (with_reducible refine gd_elim ?_; intro hg h; try (have hg2 := hg.2; have hg := hg.1; (try (simp only [Nat.reduceLeDiff] at hg2)); (try (revert hg2; (with_reducible refine toNat_elim hg ?_); intro hg2 hg4)); try (have hg3 := hg2.2; have hg2 := hg2.1; (try (simp only [Nat.reduceLeDiff] at hg3))))) | (with_reducible refine condt_elim ?_ ?_; (focus (with_reducible assumption)); intro h) | (with_reducible refine condf_elim ?_ ?_; (focus (with_reducible assumption)); intro h)))
 | ((with_reducible first | refine pnR ?_ | refine pnE ?_ | refine pmR ?_ | refine pmE ?_)
    obtain rfl := h.get
    have h := hK
    clear hK
    (try (simp only [Sum.elim_inl, Sum.elim_inr] at h)))
 | ((with_reducible refine fi 69 ?_ ?_); (focus (with_reducible assumption))
    first
    | (with_reducible refine here_join (a := (.seq (.region 31 _ _) _)) (b := (.seq (.region 33 _ _) _)) ?_
       revert h
       with_reducible refine bind_elimY ?_
       intro o7 h hK
       unfold spec_l04Heights.a7 at h
       refine sw_join (ι := (List GFunc) × GI3 × (List Int) × (List Bool) × GI3 × (List Int) × Int × (List GI2) × Int × Int) 70000000 (fun x => [(.s 1, some (.v (V.int x.2.2.2.2.2.2.1))), (.s 2, some (.v (.mp 0 1 0 0))), (.s 5, some (.v (.mp 128 3 0 0))), (.s 6, some (.v (.d (.row .bor 2 (Rw GI2.cells x.2.2.2.2.2.2.2.1))))), (.s 7, some (.v (.sl 832 1 0 x.2.2.1.length))), (.s 9, some (.v (.sl 10000640 1 0 x.2.2.2.1.length))), (.s 12, some (.v (.mp 20001152 3 0 0))), (.s 14, some (.v (V.int x.2.2.2.2.2.2.2.2.1))), (.s 15, some (.v (.sl 50000000 1 0 x.2.2.2.2.2.1.length))), (.s 16, some (.v (V.int x.2.2.2.2.2.2.2.2.2))), (.r 0, some (.o 1 [[.d (.row .bor 3 (Rw (GFunc.cells .bor) x.1))]])), (.r 128, some (.o 3 [[V.int x.2.1.a, V.int x.2.1.b, V.int x.2.1.c]])), (.r 832, some (.o 1 (dd (Rw (cI .i64) x.2.2.1)))), (.r 10000640, some (.o 1 (dd (Rw cB x.2.2.2.1)))), (.r 20001152, some (.o 3 [[V.int x.2.2.2.2.1.a, V.int x.2.2.2.2.1.b, V.int x.2.2.2.2.1.c]])), (.r 50000000, some (.o 1 (dd (Rw (cI .i64) x.2.2.2.2.2.1))))]) (fun x => Yes (some (.inr x)) o7) ?_ ?_
       rotate_left
       rintro ⟨b1, b2, b3, b4, b5, b6, b7, b8, b9, b10⟩ h
       obtain rfl := h.get
       have h := hK
       clear hK
       (try (simp only [Sum.elim_inl, Sum.elim_inr] at h))
       refine sw_gh ?_
       refine gh_sw ?_)
    | (with_reducible refine here_loop (c := (.seq (.seq (.region 26 _ _) _) _)) ?_
       revert h
       with_reducible refine bind_elimY ?_
       intro o6 h hK
       refine lpA (β := (List GFunc) × GI3 × (List Int) × (List Bool) × GI3 × (List Int) × Int × (List GI2) × Int × Int) 60000000 (fun x => [(.s 1, some (.v (V.int x.2.2.2.2.2.2.2.1))), (.s 2, some (.v (.mp 0 1 0 0))), (.s 5, some (.v (.mp 128 3 0 0))), (.s 6, some (.v (.d (.row .bor 2 (Rw GI2.cells x.2.2.2.2.2.2.2.2.1))))), (.s 7, some (.v (.sl 832 1 0 x.2.2.2.1.length))), (.s 9, some (.v (.sl 10000640 1 0 x.2.2.2.2.1.length))), (.s 12, some (.v (.mp 20001152 3 0 0))), (.s 14, some (.v (V.int x.2.2.2.2.2.2.2.2.2.1))), (.s 15, some (.v (.sl 50000000 1 0 x.2.2.2.2.2.2.1.length))), (.s 16, some (.v (V.int x.2.2.2.2.2.2.2.2.2.2))), (.r 0, some (.o 1 [[.d (.row .bor 3 (Rw (GFunc.cells .bor) x.2.1))]])), (.r 128, some (.o 3 [[V.int x.2.2.1.a, V.int x.2.2.1.b, V.int x.2.2.1.c]])), (.r 832, some (.o 1 (dd (Rw (cI .i64) x.2.2.2.1)))), (.r 10000640, some (.o 1 (dd (Rw cB x.2.2.2.2.1)))), (.r 20001152, some (.o 3 [[V.int x.2.2.2.2.2.1.a, V.int x.2.2.2.2.2.1.b, V.int x.2.2.2.2.2.1.c]])), (.r 50000000, some (.o 1 (dd (Rw (cI .i64) x.2.2.2.2.2.2.1))))]) (fun x => Yes (spec_l04Heights.l6 x.1 x.2.1 x.2.2.1 x.2.2.2.1 x.2.2.2.2.1 x.2.2.2.2.2.1 x.2.2.2.2.2.2.1 x.2.2.2.2.2.2.2.1 x.2.2.2.2.2.2.2.2.1 x.2.2.2.2.2.2.2.2.2.1 x.2.2.2.2.2.2.2.2.2.2) o6) (_, _, _, _, _, _, _, _, _, _, _) h ?_
       rintro ⟨_ | k, a1, a2, a3, a4, a5, a6, a7, a8, a9, a10⟩ h
       · simp only [spec_l04Heights.l6] at h; exact h.none
       simp only [spec_l04Heights.l6] at h
   )
    | (with_reducible refine here_join (a := (.seq (.region 23 _ _) _)) (b := (.seq (.region 25 _ _) _)) ?_
       revert h
       with_reducible refine bind_elimY ?_
       intro o5 h hK
       unfold spec_l04Heights.a5 at h
       refine sw_join (ι := (List GFunc) × GI3 × (List Int) × (List Bool) × GI3 × Int × (List GI2) × Int × (List Int)) 50000000 (fun x => [(.s 1, some (.v (V.int x.2.2.2.2.2.1))), (.s 2, some (.v (.mp 0 1 0 0))), (.s 5, some (.v (.mp 128 3 0 0))), (.s 6, some (.v (.d (.row .bor 2 (Rw GI2.cells x.2.2.2.2.2.2.1))))), (.s 7, some (.v (.sl 832 1 0 x.2.2.1.length))), (.s 9, some (.v (.sl 10000640 1 0 x.2.2.2.1.length))), (.s 12, some (.v (.mp 20001152 3 0 0))), (.s 14, some (.v (V.int x.2.2.2.2.2.2.2.1))), (.s 15, some (.v (.d (.row .own 1 (Rw (cI .i64) x.2.2.2.2.2.2.2.2))))), (.r 0, some (.o 1 [[.d (.row .bor 3 (Rw (GFunc.cells .bor) x.1))]])), (.r 128, some (.o 3 [[V.int x.2.1.a, V.int x.2.1.b, V.int x.2.1.c]])), (.r 832, some (.o 1 (dd (Rw (cI .i64) x.2.2.1)))), (.r 10000640, some (.o 1 (dd (Rw cB x.2.2.2.1)))), (.r 20001152, some (.o 3 [[V.int x.2.2.2.2.1.a, V.int x.2.2.2.2.1.b, V.int x.2.2.2.2.1.c]]))]) (fun x => Yes (some (x)) o5) ?_ ?_
       rotate_left
       rintro ⟨b1, b2, b3, b4, b5, b6, b7, b8, b9⟩ h
       obtain rfl := h.get
       have h := hK
       clear hK
       (try (simp only [Sum.elim_inl, Sum.elim_inr] at h))
       refine sw_gh ?_
       refine gh_nameSlot 15 ?_
       simp only [rxb, Nat.reduceAdd, Nat.reduceLeDiff, rxd, lkd, lkb, reduceCtorEq, Nat.reduceEqDiff, Nat.reduceAdd]
       refine gh_sw ?_)
    | (with_reducible refine here_meet (N0 := 50000000) ?_
       refine gh_resSlot 15 ?_
       simp only [rxb, Nat.reduceAdd, Nat.reduceLeDiff, rxd, lkd, lkb, reduceCtorEq, Nat.reduceEqDiff, *]
       refine mtA (_, _, _, _, _, _, _, _, _) h)
    | (with_reducible refine here_join (a := (.seq (.region 21 _ _) _)) (b := (.seq (.seq (.region 23 _ _) _) _)) ?_
       revert h
       with_reducible refine bind_elimY ?_
       intro o4 h hK
       unfold spec_l04Heights.a4 at h
       refine sw_join (ι := (List GFunc) × GI3 × (List Int) × (List Bool) × GI2 × GI3 × Int × (List GI2) × Int × (List Int)) 40000000 (fun x => [(.s 1, some (.v (V.int x.2.2.2.2.2.2.1))), (.s 2, some (.v (.mp 0 1 0 0))), (.s 5, some (.v (.mp 128 3 0 0))), (.s 6, some (.v (.d (.row .bor 2 (Rw GI2.cells x.2.2.2.2.2.2.2.1))))), (.s 7, some (.v (.sl 832 1 0 x.2.2.1.length))), (.s 9, some (.v (.sl 10000640 1 0 x.2.2.2.1.length))), (.s 11, some (.v (.mp 20000832 2 0 0))), (.s 12, some (.v (.mp 20001152 3 0 0))), (.s 14, some (.v (V.int x.2.2.2.2.2.2.2.2.1))), (.s 15, some (.v (.d (.row .own 1 (Rw (cI .i64) x.2.2.2.2.2.2.2.2.2))))), (.r 0, some (.o 1 [[.d (.row .bor 3 (Rw (GFunc.cells .bor) x.1))]])), (.r 128, some (.o 3 [[V.int x.2.1.a, V.int x.2.1.b, V.int x.2.1.c]])), (.r 832, some (.o 1 (dd (Rw (cI .i64) x.2.2.1)))), (.r 10000640, some (.o 1 (dd (Rw cB x.2.2.2.1)))), (.r 20000832, some (.o 2 [[V.int x.2.2.2.2.1.a, V.int x.2.2.2.2.1.b]])), (.r 20001152, some (.o 3 [[V.int x.2.2.2.2.2.1.a, V.int x.2.2.2.2.2.1.b, V.int x.2.2.2.2.2.1.c]]))]) (fun x => Yes (some (x)) o4) ?_ ?_
       rotate_left
       rintro ⟨b1, b2, b3, b4, b5, b6, b7, b8, b9, b10⟩ h
       obtain rfl := h.get
       have h := hK
       clear hK
       (try (simp only [Sum.elim_inl, Sum.elim_inr] at h))
       refine sw_gh ?_
       refine gh_nameSlot 15 ?_
       simp only [rxb, Nat.reduceAdd, Nat.reduceLeDiff, rxd, lkd, lkb, reduceCtorEq, Nat.reduceEqDiff, Nat.reduceAdd]
       refine gh_sw ?_)
    | (with_reducible refine here_meet (N0 := 40000000) ?_
       refine gh_resSlot 15 ?_
       simp only [rxb, Nat.reduceAdd, Nat.reduceLeDiff, rxd, lkd, lkb, reduceCtorEq, Nat.reduceEqDiff, *]
       refine mtA (_, _, _, _, _, _, _, _, _, _) h)
    | (with_reducible refine here_join (a := (.seq (.region 18 _ _) _)) (b := (.seq (.region 20 _ _) _)) ?_
       revert h
       with_reducible refine bind_elimY ?_
       intro o3 h hK
       unfold spec_l04Heights.a3 at h
       refine sw_join (ι := (List GFunc) × GI3 × (List Int) × (List Bool) × GI2 × GI3 × Int × (List GI2) × Int × Int) 30000000 (fun x => [(.s 1, some (.v (V.int x.2.2.2.2.2.2.1))), (.s 2, some (.v (.mp 0 1 0 0))), (.s 5, some (.v (.mp 128 3 0 0))), (.s 6, some (.v (.d (.row .bor 2 (Rw GI2.cells x.2.2.2.2.2.2.2.1))))), (.s 7, some (.v (.sl 832 1 0 x.2.2.1.length))), (.s 9, some (.v (.sl 10000640 1 0 x.2.2.2.1.length))), (.s 10, some (.v (V.int x.2.2.2.2.2.2.2.2.1))), (.s 11, some (.v (.mp 20000832 2 0 0))), (.s 12, some (.v (.mp 20001152 3 0 0))), (.s 14, some (.v (V.int x.2.2.2.2.2.2.2.2.2))), (.r 0, some (.o 1 [[.d (.row .bor 3 (Rw (GFunc.cells .bor) x.1))]])), (.r 128, some (.o 3 [[V.int x.2.1.a, V.int x.2.1.b, V.int x.2.1.c]])), (.r 832, some (.o 1 (dd (Rw (cI .i64) x.2.2.1)))), (.r 10000640, some (.o 1 (dd (Rw cB x.2.2.2.1)))), (.r 20000832, some (.o 2 [[V.int x.2.2.2.2.1.a, V.int x.2.2.2.2.1.b]])), (.r 20001152, some (.o 3 [[V.int x.2.2.2.2.2.1.a, V.int x.2.2.2.2.2.1.b, V.int x.2.2.2.2.2.1.c]]))]) (fun x => Yes (some (.inr x)) o3) ?_ ?_
       rotate_left
       rintro ⟨b1, b2, b3, b4, b5, b6, b7, b8, b9, b10⟩ h
       obtain rfl := h.get
       have h := hK
       clear hK
       (try (simp only [Sum.elim_inl, Sum.elim_inr] at h))
       refine sw_gh ?_
       refine gh_sw ?_)
    | (with_reducible refine here_loop (c := (.block 3 _)) ?_
       revert h
       with_reducible refine bind_elimY ?_
       intro o2 h hK
       refine lpA (β := (List GFunc) × GI3 × (List Int) × (List Bool) × Int × (List GI2)) 20000000 (fun x => [(.s 1, some (.v (V.int x.2.2.2.2.2.1))), (.s 2, some (.v (.mp 0 1 0 0))), (.s 5, some (.v (.mp 128 3 0 0))), (.s 6, some (.v (.d (.row .bor 2 (Rw GI2.cells x.2.2.2.2.2.2))))), (.s 7, some (.v (.sl 832 1 0 x.2.2.2.1.length))), (.s 9, some (.v (.sl 10000640 1 0 x.2.2.2.2.1.length))), (.r 0, some (.o 1 [[.d (.row .bor 3 (Rw (GFunc.cells .bor) x.2.1))]])), (.r 128, some (.o 3 [[V.int x.2.2.1.a, V.int x.2.2.1.b, V.int x.2.2.1.c]])), (.r 832, some (.o 1 (dd (Rw (cI .i64) x.2.2.2.1)))), (.r 10000640, some (.o 1 (dd (Rw cB x.2.2.2.2.1))))]) (fun x => Yes (spec_l04Heights.l2 x.1 x.2.1 x.2.2.1 x.2.2.2.1 x.2.2.2.2.1 x.2.2.2.2.2.1 x.2.2.2.2.2.2) o2) (_, _, _, _, _, _, _) h ?_
       rintro ⟨_ | k, a1, a2, a3, a4, a5, a6⟩ h
       · simp only [spec_l04Heights.l2] at h; exact h.none
       simp only [spec_l04Heights.l2] at h
   )
    | (with_reducible refine here_loop (c := (.seq (.seq (.region 4 _ _) _) _)) ?_
       revert h
       with_reducible refine bind_elimY ?_
       intro o1 h hK
       refine lpA (β := (List GFunc) × GI3 × (List Int) × Int × (List GI2) × Int) 10000000 (fun x => [(.s 1, some (.v (V.int x.2.2.2.2.1))), (.s 2, some (.v (.mp 0 1 0 0))), (.s 5, some (.v (.mp 128 3 0 0))), (.s 6, some (.v (.d (.row .bor 2 (Rw GI2.cells x.2.2.2.2.2.1))))), (.s 7, some (.v (.sl 832 1 0 x.2.2.2.1.length))), (.s 8, some (.v (V.int x.2.2.2.2.2.2))), (.r 0, some (.o 1 [[.d (.row .bor 3 (Rw (GFunc.cells .bor) x.2.1))]])), (.r 128, some (.o 3 [[V.int x.2.2.1.a, V.int x.2.2.1.b, V.int x.2.2.1.c]])), (.r 832, some (.o 1 (dd (Rw (cI .i64) x.2.2.2.1))))]) (fun x => Yes (spec_l04Heights.l1 x.1 x.2.1 x.2.2.1 x.2.2.2.1 x.2.2.2.2.1 x.2.2.2.2.2.1 x.2.2.2.2.2.2) o1) (_, _, _, _, _, _, _) h ?_
       rintro ⟨_ | k, a1, a2, a3, a4, a5, a6⟩ h
       · simp only [spec_l04Heights.l1] at h; exact h.none
       simp only [spec_l04Heights.l1] at h
   ))
 | ((with_reducible refine fi 39 ?_ ?_); (focus (with_reducible assumption))
    first
    | (with_reducible refine here_loop (c := (.seq (.seq (.region 7 _ _) _) _)) ?_
       revert h
       with_reducible refine bind_elimY ?_
       intro o2 h hK
       refine lpA (β := (List GFrame) × (List (List Int)) × (List Int) × Int × Bool × Int × Int × GState × GState × Int) 20000000 (fun x => [(.s 1, some (.v (.mp 0 7 0 0))), (.s 2, some (.v (.mp 64 7 0 0))), (.s 3, some (.v (.mp 896 7 0 0))), (.s 5, some (.v (V.int x.2.2.2.2.2.2.2.2.2.2))), (.r 0, some (.o 7 [[.d (.row .bor 4 (Rw (GFrame.cells .bor) x.2.1)), .d (.row .bor 1 (Rw (cL .bor 1 (cI .i64)) x.2.2.1)), .d (.row .bor 1 (Rw (cI .i64) x.2.2.2.1)), V.int x.2.2.2.2.1, V.bool x.2.2.2.2.2.1, V.int x.2.2.2.2.2.2.1, V.int x.2.2.2.2.2.2.2.1]])), (.r 64, some (.o 7 [[.d (.row .own 4 (Rw (GFrame.cells .own) x.2.2.2.2.2.2.2.2.1.frames)), .d (.row .own 1 (Rw (cL .own 1 (cI .i64)) x.2.2.2.2.2.2.2.2.1.heap)), .d (.row .own 1 (Rw (cI .i64) x.2.2.2.2.2.2.2.2.1.out)), V.int x.2.2.2.2.2.2.2.2.1.fuel0, V.bool x.2.2.2.2.2.2.2.2.1.done, V.int x.2.2.2.2.2.2.2.2.1.value, V.int x.2.2.2.2.2.2.2.2.1.trap]])), (.r 896, some (.o 7 [[.d (.row .own 4 (Rw (GFrame.cells .own) x.2.2.2.2.2.2.2.2.2.1.frames)), .d (.row .own 1 (Rw (cL .own 1 (cI .i64)) x.2.2.2.2.2.2.2.2.2.1.heap)), .d (.row .own 1 (Rw (cI .i64) x.2.2.2.2.2.2.2.2.2.1.out)), V.int x.2.2.2.2.2.2.2.2.2.1.fuel0, V.bool x.2.2.2.2.2.2.2.2.2.1.done, V.int x.2.2.2.2.2.2.2.2.2.1.value, V.int x.2.2.2.2.2.2.2.2.2.1.trap]]))]) (fun x => Yes (spec_l06Copy.l2 x.1 x.2.1 x.2.2.1 x.2.2.2.1 x.2.2.2.2.1 x.2.2.2.2.2.1 x.2.2.2.2.2.2.1 x.2.2.2.2.2.2.2.1 x.2.2.2.2.2.2.2.2.1 x.2.2.2.2.2.2.2.2.2.1 x.2.2.2.2.2.2.2.2.2.2) o2) (_, _, _, _, _, _, _, _, _, _, _) h ?_
       rintro ⟨_ | k, a1, a2, a3, a4, a5, a6, a7, a8, a9, a10⟩ h
       · simp only [spec_l06Copy.l2] at h; exact h.none
       simp only [spec_l06Copy.l2] at h
   )
    | (with_reducible refine here_loop (c := (.seq (.seq (.region 3 _ _) _) _)) ?_
       revert h
       with_reducible refine bind_elimY ?_
       intro o1 h hK
       refine sw_gh ?_
       (try (apply gh_conv 64; (focus (simp only [lkd, lkb, reduceCtorEq, Nat.reduceEqDiff]; try rfl)); (focus (apply All2.cons; (focus (apply All2.cons; (focus (first | exact Conv1.nil (m := .own) (s := 4) | exact .same)); apply All2.cons; (focus (first | exact Conv1.nil (m := .own) (s := 1) | exact .same)); apply All2.cons; (focus (first | exact Conv1.nil (m := .own) (s := 1) | exact .same)); apply All2.cons; (focus (exact .same)); apply All2.cons; (focus (exact .same)); apply All2.cons; (focus (exact .same)); apply All2.cons; (focus (exact .same)); exact .nil)); exact .nil))))
       (try (apply gh_conv 896; (focus (simp only [lkd, lkb, reduceCtorEq, Nat.reduceEqDiff]; try rfl)); (focus (apply All2.cons; (focus (apply All2.cons; (focus (first | exact Conv1.nil (m := .own) (s := 4) | exact .same)); apply All2.cons; (focus (first | exact Conv1.nil (m := .own) (s := 1) | exact .same)); apply All2.cons; (focus (first | exact Conv1.nil (m := .own) (s := 1) | exact .same)); apply All2.cons; (focus (exact .same)); apply All2.cons; (focus (exact .same)); apply All2.cons; (focus (exact .same)); apply All2.cons; (focus (exact .same)); exact .nil)); exact .nil))))
       (try (apply gh_resObj 896; (focus (simp only [lkd, lkb, reduceCtorEq, Nat.reduceEqDiff]; try rfl)); simp only [rxb, Nat.reduceAdd, Nat.reduceLeDiff, rxd, lkd, lkb, reduceCtorEq, Nat.reduceEqDiff, *, mmb, GI2_Dset, GFunc_Dset, GProgram_Dset, GFrame_Dset, GState_Dset, GI3_Dset, LcIi64_Dset]))
       refine gh_sw ?_
       refine lpA (β := (List GFrame) × (List (List Int)) × (List Int) × Int × Bool × Int × Int × GState × GState × Int) 10000000 (fun x => [(.s 1, some (.v (.mp 0 7 0 0))), (.s 2, some (.v (.mp 64 7 0 0))), (.s 3, some (.v (.mp 896 7 0 0))), (.s 4, some (.v (V.int x.2.2.2.2.2.2.2.2.2.2))), (.r 0, some (.o 7 [[.d (.row .bor 4 (Rw (GFrame.cells .bor) x.2.1)), .d (.row .bor 1 (Rw (cL .bor 1 (cI .i64)) x.2.2.1)), .d (.row .bor 1 (Rw (cI .i64) x.2.2.2.1)), V.int x.2.2.2.2.1, V.bool x.2.2.2.2.2.1, V.int x.2.2.2.2.2.2.1, V.int x.2.2.2.2.2.2.2.1]])), (.r 64, some (.o 7 [[.d (.row .own 4 (Rw (GFrame.cells .own) x.2.2.2.2.2.2.2.2.1.frames)), .d (.row .own 1 (Rw (cL .own 1 (cI .i64)) x.2.2.2.2.2.2.2.2.1.heap)), .d (.row .own 1 (Rw (cI .i64) x.2.2.2.2.2.2.2.2.1.out)), V.int x.2.2.2.2.2.2.2.2.1.fuel0, V.bool x.2.2.2.2.2.2.2.2.1.done, V.int x.2.2.2.2.2.2.2.2.1.value, V.int x.2.2.2.2.2.2.2.2.1.trap]])), (.r 896, some (.o 7 [[.d (.row .own 4 (Rw (GFrame.cells .own) x.2.2.2.2.2.2.2.2.2.1.frames)), .d (.row .own 1 (Rw (cL .own 1 (cI .i64)) x.2.2.2.2.2.2.2.2.2.1.heap)), .d (.row .own 1 (Rw (cI .i64) x.2.2.2.2.2.2.2.2.2.1.out)), V.int x.2.2.2.2.2.2.2.2.2.1.fuel0, V.bool x.2.2.2.2.2.2.2.2.2.1.done, V.int x.2.2.2.2.2.2.2.2.2.1.value, V.int x.2.2.2.2.2.2.2.2.2.1.trap]]))]) (fun x => Yes (spec_l06Copy.l1 x.1 x.2.1 x.2.2.1 x.2.2.2.1 x.2.2.2.2.1 x.2.2.2.2.2.1 x.2.2.2.2.2.2.1 x.2.2.2.2.2.2.2.1 x.2.2.2.2.2.2.2.2.1 x.2.2.2.2.2.2.2.2.2.1 x.2.2.2.2.2.2.2.2.2.2) o1) (_, _, _, _, _, _, _, _, _, _, _) h ?_
       rintro ⟨_ | k, a1, a2, a3, a4, a5, a6, a7, a8, a9, a10⟩ h
       · simp only [spec_l06Copy.l1] at h; exact h.none
       simp only [spec_l06Copy.l1] at h
   )
    | (with_reducible refine here_next (N0 := 10000000) ?_
       (try (apply gh_conv 64; (focus (simp only [lkd, lkb, reduceCtorEq, Nat.reduceEqDiff]; try rfl)); (focus (apply All2.cons; (focus (apply All2.cons; (focus (first | exact Conv1.nil (m := .own) (s := 4) | exact .same)); apply All2.cons; (focus (first | exact Conv1.nil (m := .own) (s := 1) | exact .same)); apply All2.cons; (focus (first | exact Conv1.nil (m := .own) (s := 1) | exact .same)); apply All2.cons; (focus (exact .same)); apply All2.cons; (focus (exact .same)); apply All2.cons; (focus (exact .same)); apply All2.cons; (focus (exact .same)); exact .nil)); exact .nil))))
       (try (apply gh_conv 896; (focus (simp only [lkd, lkb, reduceCtorEq, Nat.reduceEqDiff]; try rfl)); (focus (apply All2.cons; (focus (apply All2.cons; (focus (first | exact Conv1.nil (m := .own) (s := 4) | exact .same)); apply All2.cons; (focus (first | exact Conv1.nil (m := .own) (s := 1) | exact .same)); apply All2.cons; (focus (first | exact Conv1.nil (m := .own) (s := 1) | exact .same)); apply All2.cons; (focus (exact .same)); apply All2.cons; (focus (exact .same)); apply All2.cons; (focus (exact .same)); apply All2.cons; (focus (exact .same)); exact .nil)); exact .nil))))
       (try (apply gh_resObj 896; (focus (simp only [lkd, lkb, reduceCtorEq, Nat.reduceEqDiff]; try rfl)); simp only [rxb, Nat.reduceAdd, Nat.reduceLeDiff, rxd, lkd, lkb, reduceCtorEq, Nat.reduceEqDiff, *, mmb, GI2_Dset, GFunc_Dset, GProgram_Dset, GFrame_Dset, GState_Dset, GI3_Dset, LcIi64_Dset]))
       refine nxA (_, _, _, _, _, _, _, _, _, _, _) h))
 | (with_reducible refine here_next ?_
    first | refine nxA (_, _, _, _, _, _, _) h | refine nxA (_, _, _, _, _, _, _, _, _, _, _) h)
 | (with_reducible refine here_meet ?_
    first | refine mtA (_, _, _, _, _, _, _, _, _, _) h)
 | with_reducible refine sw_seq ?_
 | with_reducible refine seqQ_ret ?_
 | with_reducible refine seqQ_exit ?_
 | ((with_reducible refine fi 69 ?_ ?_); (focus (with_reducible assumption))
    first
    | (with_reducible refine gh_nilRow 4 .own 1 ?_ ?_
       · simp only [lkd, lkb, reduceCtorEq, Nat.reduceEqDiff]; done
       skip))
 | ((with_reducible refine wp_ite ?_ ?_)
    all_goals (intro hc; (try (simp only [Bool.not_eq_true, Bool.not_eq_false] at hc)); simp only [hc]))
 | (with_reducible refine rskip (hs := ?_) (h2 := ?_)
    · simp only [lkd, lkb, reduceCtorEq, Nat.reduceEqDiff]; done)
 | (with_reducible refine ryes (hs := ?_) (h := ?_)
    · simp only [lkd, lkb, reduceCtorEq, Nat.reduceEqDiff]; done)
 | (with_reducible refine rno (hs := ?_) (h := ?_)
    · simp only [lkd, lkb, reduceCtorEq, Nat.reduceEqDiff, Bool.not_true, Bool.not_false]; done)
 | (with_reducible apply regW_guardN
    · simp only [dstOk, Nat.reduceLT]
    · rfl
    · simp only [lkd, lkb, reduceCtorEq, Nat.reduceEqDiff]; rfl
    all_goals (intro hc; (try (simp only [Bool.not_true, Bool.not_false] at hc))))
 | (with_reducible apply sw_cond
    · simp only [lkd, lkb, reduceCtorEq, Nat.reduceEqDiff]; rfl
    all_goals (intro hc; try (cases hc; done)))
 | ((first
     | ((with_reducible refine gh_ret ?_)
        revert h
        with_reducible refine some_elim ?_
        rintro rfl)
     | (with_reducible refine here_call ?_
        revert h
        with_reducible refine bind_elim ?_
        intro t ht h
        (first
          | ((first
              | ((with_reducible refine here_call (f := 85) ?_); refine call_dataE (c_spec_Takes ht) ?_ rfl ?_)
              | ((with_reducible refine here_call (f := 89) ?_); refine call_dataE (c_spec_Puts ht) ?_ rfl ?_)
              | ((with_reducible refine here_call (f := 83) ?_); refine call_dataE (c_spec_l06Nums ht) ?_ rfl ?_)
              | ((with_reducible refine here_call (f := 84) ?_); refine call_dataE (c_spec_l06CopyFrame ht) ?_ rfl ?_))
             · first | rfl | (simp; done))
          | ((with_reducible refine here_call (f := 109) ?_); refine call_autoE (c_spec_l04Least ht) ?_ ?_ ?_
             · simp only [hyb, hyd, GI2_lend, GFunc_lend, GProgram_lend, GFrame_lend, GState_lend, GI3_lend, LcIi64_lend, List.take_of_length_le, lkd, lkb, reduceCtorEq, Nat.reduceEqDiff, *]; first | rfl | done
             · first | rfl | (simp only [nbd, nbb, GI2_nb, GFunc_nb, GProgram_nb, GFrame_nb, GState_nb, GI3_nb, LcIi64_nb]; done)
             simp only [V.namesOf, V.namesOfL, List.foldl_cons, List.foldl_nil, List.nil_append, List.append_nil, List.cons_append])))
     | (with_reducible (first | refine ropD (h := ?_) | refine ropW (h := ?_))
        intro k hk)
     | skip)
    simp only [bn, lkb, evb, evd, Value.oneCell', setSeg, reduceCtorEq, Nat.reduceAdd, Nat.reduceMul, Nat.reduceSub, Nat.reduceLT, Nat.reduceLeDiff, Nat.reduceEqDiff, Int.reduceNeg, Int.reduceToNat, ty2, ty3, ty4, ty5, ty6, ty23, ty25, ty26, ty27, ty28, ty30, ty56, ty90, ty92, ty94, ty98, ty154, GFrame.cells, GFunc.cells, GI2.cells, GI3.cells, GProgram.cells, GState.cells, cI, cB, cS, cL, GI2_e, GFunc_e, GProgram_e, GFrame_e, GState_e, GI3_e, LcIi64_e, buildP, buildSliceP, putParts, structPlaces, chunks, List.replicate, List.flatten_nil, List.flatten_cons, Option.bind_some, bb, GFrame_b, LcIi64_b, nilEqP, ne_eq, not_false_eq_true, not_true_eq_false, *]
    try (refine hk.use _ _ _ _ ?_; clear hk k))
 | fail)
  all_goals (try rfl)
  all_goals (try (simp; done))
  all_goals (try (simp_all; done))
def c_spec_l04Heights := @And.left _ _ gr15
def c_spec_l06Copy := (@And.right _ _ gr15)
end Go.Proofs.YtdlaplgofgklnaaGreat