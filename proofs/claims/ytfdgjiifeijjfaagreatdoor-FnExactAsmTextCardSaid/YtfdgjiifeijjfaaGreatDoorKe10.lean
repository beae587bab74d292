/- WHAT IS PROVED: an abstract walker over the model, what some functions of the program answer, and laws of these answers. Conditions: none. -/
import Derived.Test.YtfdgjiifeijjfaaGreatDoorKe9
namespace Go.Proofs.YtfdgjiifeijjfaaGreatDoor
open Go.Proofs Go.Proofs.YtfdgjiifeijjfaaGreatDoor.L
set_option maxHeartbeats 8000000
set_option linter.unusedSimpArgs false
set_option linter.unusedVariables false
set_option maxRecDepth 100000
set_option linter.defProp false
def impl_known (k : Nat) (p0 : GProgram) : Option (Gprog × Bool) :=
  (impl_verify k p0).bind fun t1 => some ((⟨p0, t1.2⟩ : Gprog), (t1.1.c == 0))
def impl_prog_insRight.a1 (k : Nat) (a1 : (List GMov)) (a2 : Int) (a3 : Int) (a4 : (List GI2)) (a5 : Int) (a6 : Gprog) (a7 : Int) : Option ((Bool) ⊕ ((List GMov) × Int × Int × (List GI2) × Int × Gprog × Int)) :=
  cond ((decide (((a1.length : Int)) > 16))) (some (.inl (false))) ((impl_someAll k a4).bind fun t1 => cond ((!t1)) (some (.inl (false))) (cond ((a3 != ((-1)))) ((impl_isLoc a3).bind fun t2 => cond ((!t2)) (some (.inl (false))) (some (.inr (a1, a2, a3, a4, a5, a6, a7)))) (some (.inr (a1, a2, a3, a4, a5, a6, a7)))))
def impl_prog_insRight.l2 : Nat → (List GMov) → Int → Int → (List GI2) → Int → Gprog → Int → (List GMov) → Int → Int → Option ((Bool) ⊕ ((List GMov) × Int × Int × (List GI2) × Int × Gprog × Int))
  | 0, _, _, _, _, _, _, _, _, _, _ => none
  | k + 1, a1, a2, a3, a4, a5, a6, a7, a8, a9, a10 => cond ((decide (a10 < a9))) ((idx a8 a10).bind fun m3 => (impl_isLoc m3.to).bind fun t4 => cond ((!t4)) (some (.inl (false))) ((impl_Val_some m3.from0).bind fun t5 => cond ((!t5)) (some (.inl (false))) (impl_prog_insRight.l2 k a1 a2 a3 a4 a5 a6 a7 a8 a9 ((IntKind.i64.wrap (a10 + 1)))))) (some (.inr (a1, a2, a3, a4, a5, a6, a7)))
def impl_prog_insRight.a3 (k : Nat) (a1 : (List GMov)) (a2 : Int) (a3 : Int) (a4 : (List GI2)) (a5 : Int) (a6 : Gprog) (a7 : Int) (a8 : Bool) : Option ((List GMov) × Int × Int × (List GI2) × Int × Gprog × Int × Bool × Bool) :=
  cond ((a2 == 36)) (some (a1, a2, a3, a4, a5, a6, a7, a8, true)) (cond ((a2 == 38)) (some (a1, a2, a3, a4, a5, a6, a7, a8, true)) (some (a1, a2, a3, a4, a5, a6, a7, a8, (a2 == 33))))
def impl_prog_insRight.a4 (k : Nat) (a1 : (List GMov)) (a2 : Int) (a3 : Int) (a4 : (List GI2)) (a5 : Int) (a6 : Gprog) (a7 : Int) : Option ((List GMov) × Int × Int × (List GI2) × Int × Gprog × Int × Bool) :=
  (impl_isArith a2).bind fun t11 => cond t11 (some (a1, a2, a3, a4, a5, a6, a7, true)) (cond ((a2 == 34)) (some (a1, a2, a3, a4, a5, a6, a7, true)) (cond ((a2 == 35)) (some (a1, a2, a3, a4, a5, a6, a7, true)) (some (a1, a2, a3, a4, a5, a6, a7, (a2 == 37)))))
def impl_prog_insRight (k : Nat) (p0 : Gprog) (p1 : Int) (p2 : GAsmIns) : Option (Bool) :=
  (impl_prog_insRight.a1 k p2.pre p2.op p2.to p2.l p2.t p0 p1).bind fun o1 => Sum.elim (fun o1l => some o1l) (fun o1r => (impl_prog_insRight.l2 k o1r.1 o1r.2.1 o1r.2.2.1 o1r.2.2.2.1 o1r.2.2.2.2.1 o1r.2.2.2.2.2.1 o1r.2.2.2.2.2.2 o1r.1 ((o1r.1.length : Int)) 0).bind fun o2 => Sum.elim (fun o2l => some o2l) (fun o2r => cond ((o2r.2.1 == 0)) (cond ((o2r.2.2.1 == ((-1)))) (cond ((((o2r.2.2.2.1.length : Int)) == 0)) (some ((o2r.2.2.2.2.1 == 0))) (some false)) (some false)) (cond ((o2r.2.1 == 1)) (cond ((!((o2r.2.2.1 == ((-1)))))) (cond ((((o2r.2.2.2.1.length : Int)) == 1)) (some ((o2r.2.2.2.2.1 == 0))) (some false)) (some false)) (cond ((o2r.2.1 == 3)) (cond ((o2r.2.2.1 == ((-1)))) (cond ((((o2r.2.2.2.1.length : Int)) == 1)) (cond ((o2r.2.2.2.2.1 == 1)) (some true) (some ((o2r.2.2.2.2.1 == 2)))) (some false)) (some false)) (cond ((o2r.2.1 == 30)) (cond ((o2r.2.2.1 == ((-1)))) (cond ((((o2r.2.2.2.1.length : Int)) == 0)) ((impl_prog_place o2r.2.2.2.2.2.1 o2r.2.2.2.2.2.2 o2r.2.2.2.2.1).bind fun t6 => some t6) (some false)) (some false)) (cond ((o2r.2.1 == 31)) (cond ((o2r.2.2.1 == ((-1)))) (cond ((((o2r.2.2.2.1.length : Int)) == 1)) ((impl_prog_place o2r.2.2.2.2.2.1 o2r.2.2.2.2.2.2 o2r.2.2.2.2.1).bind fun t7 => some t7) (some false)) (some false)) (cond ((o2r.2.1 == 32)) ((impl_hasFunc o2r.2.2.2.2.2.1.program o2r.2.2.2.2.1).bind fun t8 => cond t8 ((idx o2r.2.2.2.2.2.1.program.funcs o2r.2.2.2.2.1).bind fun m9 => some ((((o2r.2.2.2.1.length : Int)) == m9.args))) (some false)) ((impl_prog_insRight.a3 k o2r.1 o2r.2.1 o2r.2.2.1 o2r.2.2.2.1 o2r.2.2.2.2.1 o2r.2.2.2.2.2.1 ((o2r.2.2.2.1.length : Int)) ((o2r.2.2.1 == ((-1))))).bind fun o3 => cond o3.2.2.2.2.2.2.2.2 (cond o3.2.2.2.2.2.2.2.1 ((impl_Takes k o3.2.2.2.2.2.1.program ((⟨o3.2.1, 0⟩ : GI2))).bind fun t10 => cond ((o3.2.2.2.2.2.2.1 == t10)) (some ((o3.2.2.2.2.1 == 0))) (some false)) (some false)) ((impl_prog_insRight.a4 k o3.1 o3.2.1 o3.2.2.1 o3.2.2.2.1 o3.2.2.2.2.1 o3.2.2.2.2.2.1 o3.2.2.2.2.2.2.1).bind fun o4 => cond o4.2.2.2.2.2.2.2 ((impl_Takes k o4.2.2.2.2.2.1.program ((⟨o4.2.1, 0⟩ : GI2))).bind fun t12 => cond ((o4.2.2.2.2.2.2.1 == t12)) (some ((o4.2.2.2.2.1 == 0))) (some false)) (some false))))))))) o2) o1
def spec_l04Right (k : Nat) (p0 : GProgram) : Option (Bool) :=
  (spec_Verify k p0).bind fun t1 => some ((t1.c == 0))
def laws_eqAsm (k : Nat) (p0 : GAsm) (p1 : GAsm) : Option (Bool) :=
  cond ((p0.func0 != p1.func0)) (some false) ((laws_eqAsmInsS k p0.code p1.code).bind fun t1 => cond ((!t1)) (some false) ((laws_eqValSS k p0.maps p1.maps).bind fun t2 => cond ((!t2)) (some false) (some true)))
def laws_toAsm (k : Nat) (p0 : GAsm) : Option (GAsm) :=
  (laws_toAsmInsS k p0.code).bind fun t1 => (laws_toValSS k p0.maps).bind fun t2 => some ((⟨p0.func0, t1, t2⟩ : GAsm))
theorem ge8 : (∀ {k : Nat} {p0 : GProgram} {r : Gprog × Bool}, impl_known k p0 = some r → Con Tryz.prog 43 [.agg [.d (.row .bor 3 (Rw (GFunc.cells .bor) p0.funcs))]] [] (.tup [.d (.ptr .own [.row .bor 3 (Rw (GFunc.cells .bor) r.1.program.funcs), .row .own 1 (Rw (cL .own 1 (cI .i64)) r.1.h)]), V.bool r.2]) []) ∧
  (∀ {k : Nat} {p0 : Gprog} {p1 : Int} {p2 : GAsmIns} {r : Bool}, impl_prog_insRight k p0 p1 p2 = some r → Con Tryz.prog 71 [.d (.ptr .bor [.row .bor 3 (Rw (GFunc.cells .bor) p0.program.funcs), .row .bor 1 (Rw (cL .bor 1 (cI .i64)) p0.h)]), V.int p1, .agg [.d (.row .bor 3 (Rw GMov.cells p2.pre)), V.int p2.op, V.int p2.to, .d (.row .bor 2 (Rw GI2.cells p2.l)), V.int p2.t]] [] (V.bool r) []) ∧
  (∀ {k : Nat} {p0 : GProgram} {r : Bool}, spec_l04Right k p0 = some r → Con Tryz.prog 53 [.agg [.d (.row .bor 3 (Rw (GFunc.cells .bor) p0.funcs))]] [] (V.bool r) []) ∧
  (∀ {k : Nat} {p0 : GAsm} {p1 : GAsm} {r : Bool}, laws_eqAsm k p0 p1 = some r → Con Tryz.prog 11 [.agg [V.int p0.func0, .d (.row .bor 5 (Rw (GAsmIns.cells .bor) p0.code)), .d (.row .bor 1 (Rw (cL .bor 2 GI2.cells) p0.maps))], .agg [V.int p1.func0, .d (.row .bor 5 (Rw (GAsmIns.cells .bor) p1.code)), .d (.row .bor 1 (Rw (cL .bor 2 GI2.cells) p1.maps))]] [] (V.bool r) []) ∧
  (∀ {k : Nat} {p0 : GAsm} {r : GAsm}, laws_toAsm k p0 = some r → Con Tryz.prog 8 [.agg [V.int p0.func0, .d (.row .bor 5 (Rw (GAsmIns.cells .bor) p0.code)), .d (.row .bor 1 (Rw (cL .bor 2 GI2.cells) p0.maps))]] [] (.agg [V.int r.func0, .d (.row .own 5 (Rw (GAsmIns.cells .own) r.code)), .d (.row .own 1 (Rw (cL .own 2 GI2.cells) r.maps))]) []) := by
  refine ⟨?_, ?_, ?_, ?_, ?_⟩
  all_goals intros
  all_goals rename_i h
  all_goals first
    | (with_reducible refine isf 43 ?_
       refine csw Tryz.func43 Tryz.call43 (by simp [Tryz.ntmps43]) (h := ?_)
       refine mkf 43 fun hF => ?_
       rw [Tryz.ntmps43, Tryz.results43]
       unfold impl_known at h)
    | (with_reducible refine isf 71 ?_
       refine csw Tryz.func71 Tryz.call71 (by simp [Tryz.ntmps71]) (h := ?_)
       refine mkf 71 fun hF => ?_
       rw [Tryz.ntmps71, Tryz.results71]
       unfold impl_prog_insRight at h)
    | (with_reducible refine isf 53 ?_
       refine csw Tryz.func53 Tryz.call53 (by simp [Tryz.ntmps53]) (h := ?_)
       refine mkf 53 fun hF => ?_
       rw [Tryz.ntmps53, Tryz.results53]
       unfold spec_l04Right at h)
    | (with_reducible refine isf 11 ?_
       refine csw Tryz.func11 Tryz.call11 (by simp [Tryz.ntmps11]) (h := ?_)
       refine mkf 11 fun hF => ?_
       rw [Tryz.ntmps11, Tryz.results11]
       unfold laws_eqAsm at h)
    | (with_reducible refine isf 8 ?_
       refine csw Tryz.func8 Tryz.call8 (by simp [Tryz.ntmps8]) (h := ?_)
       refine mkf 8 fun hF => ?_
       rw [Tryz.ntmps8, Tryz.results8]
       unfold laws_toAsm at h)
  all_goals (replace h := Yes.mk h; simp only [entryS, entryO, Nat.reduceAdd, List.length_nil, List.length_cons])
  repeat' (first
 | (with_reducible (first | refine sw_reg ?_ | refine sw_ret ?_ | refine sw_skip ?_ | refine sw_block ?_ | refine sw_exit ?_ | refine seqQ_normal ?_ | refine blockQ_normal ?_ | refine blockQ_ret ?_ | refine blockQ_this ?_ | refine blockQ_other (by decide) ?_ | refine regW_nil ?_ | refine sw_draw mixed ?_ | refine retQ_ret ?_ | refine retQ_normal ?_))
 | (with_reducible refine regD_nil ?_
    refine ⟨by kernel_rfl, ?_⟩)
 | (revert h; (first | ((with_reducible refine idx_elim ?_); intro m hm1 hm2 hm3 h; (try (simp only [Int.reduceToNat] at hm3)); (try (revert hm3; (with_reducible apply same_elim); (focus (with_reducible assumption)); rintro rfl)); (try (simp only [List.length_set, List.length_cons, List.length_nil, List.length_replicate, Nat.reduceAdd, Int.cast_ofNat_Int, Nat.zero_add, List.length_append] at hm2))) | (with_reducible refine sidx_elim ?_; intro m hm1 hm3 h) | (with_reducible refine gd_elim ?_; intro hg h; try (have hg2 := hg.2; have hg := hg.1; (try (simp only [Nat.reduceLeDiff] at hg2)); (try (revert hg2; (with_reducible refine toNat_elim hg ?_); intro hg2 hg4)); try (have hg3 := hg2.2; have hg2 := hg2.1; (try (simp only [Nat.reduceLeDiff] at hg3))))) | (with_reducible refine condt_elim ?_ ?_; (focus (with_reducible assumption)); intro h) | (with_reducible refine condf_elim ?_ ?_; (focus (with_reducible assumption)); intro h)))
 | ((with_reducible first | refine pnR ?_ | refine pnE ?_ | refine pmR ?_ | refine pmE ?_)
    obtain rfl := h.get
    have h := hK
    clear hK
    (try (simp only [Sum.elim_inl, Sum.elim_inr] at h)))
 | ((with_reducible refine fi 71 ?_ ?_); (focus (with_reducible assumption))
    first
    | (with_reducible refine here_join (a := (.region 25 _ _)) (b := (.cond (.tmp 193) _ _)) ?_
       revert h
       with_reducible refine bind_elimY ?_
       intro o4 h hK
       unfold impl_prog_insRight.a4 at h
       refine sw_join (ι := (List GMov) × Int × Int × (List GI2) × Int × Gprog × Int × Bool) 40000000 (fun x => [(.s 0, some (.v (.d (.ptr .bor [.row .bor 3 (Rw (GFunc.cells .bor) x.2.2.2.2.2.1.program.funcs), .row .bor 1 (Rw (cL .bor 1 (cI .i64)) x.2.2.2.2.2.1.h)])))), (.s 5, some (.v (.mp 0 5 0 0))), (.s 9, some (.v (V.int x.2.2.2.2.2.2.1))), (.s 193, some (.v (V.bool x.2.2.2.2.2.2.2))), (.r 0, some (.o 5 [[.d (.row .bor 3 (Rw GMov.cells x.1)), V.int x.2.1, V.int x.2.2.1, .d (.row .bor 2 (Rw GI2.cells x.2.2.2.1)), V.int x.2.2.2.2.1]]))]) (fun x => Yes (some (x)) o4) ?_ ?_
       rotate_left
       rintro ⟨b1, b2, b3, b4, b5, b6, b7, b8⟩ h
       obtain rfl := h.get
       have h := hK
       clear hK
       (try (simp only [Sum.elim_inl, Sum.elim_inr] at h))
       refine sw_gh ?_
       refine gh_sw ?_)
    | (with_reducible refine here_join (a := (.region 23 _ _)) (b := (.cond (.tmp 161) _ _)) ?_
       revert h
       with_reducible refine bind_elimY ?_
       intro o3 h hK
       unfold impl_prog_insRight.a3 at h
       refine sw_join (ι := (List GMov) × Int × Int × (List GI2) × Int × Gprog × Int × Bool × Bool) 30000000 (fun x => [(.s 0, some (.v (.d (.ptr .bor [.row .bor 3 (Rw (GFunc.cells .bor) x.2.2.2.2.2.1.program.funcs), .row .bor 1 (Rw (cL .bor 1 (cI .i64)) x.2.2.2.2.2.1.h)])))), (.s 5, some (.v (.mp 0 5 0 0))), (.s 9, some (.v (V.int x.2.2.2.2.2.2.1))), (.s 10, some (.v (V.bool x.2.2.2.2.2.2.2.1))), (.s 161, some (.v (V.bool x.2.2.2.2.2.2.2.2))), (.r 0, some (.o 5 [[.d (.row .bor 3 (Rw GMov.cells x.1)), V.int x.2.1, V.int x.2.2.1, .d (.row .bor 2 (Rw GI2.cells x.2.2.2.1)), V.int x.2.2.2.2.1]]))]) (fun x => Yes (some (x)) o3) ?_ ?_
       rotate_left
       rintro ⟨b1, b2, b3, b4, b5, b6, b7, b8, b9⟩ h
       obtain rfl := h.get
       have h := hK
       clear hK
       (try (simp only [Sum.elim_inl, Sum.elim_inr] at h))
       refine sw_gh ?_
       refine gh_sw ?_)
    | (with_reducible refine here_loop (c := (.seq (.region 4 _ _) _)) ?_
       revert h
       with_reducible refine bind_elimY ?_
       intro o2 h hK
       refine lpA (β := (List GMov) × Int × Int × (List GI2) × Int × Gprog × Int × (List GMov) × Int × Int) 20000000 (fun x => [(.s 0, some (.v (.d (.ptr .bor [.row .bor 3 (Rw (GFunc.cells .bor) x.2.2.2.2.2.2.1.program.funcs), .row .bor 1 (Rw (cL .bor 1 (cI .i64)) x.2.2.2.2.2.2.1.h)])))), (.s 1, some (.v (V.int x.2.2.2.2.2.2.2.1))), (.s 5, some (.v (.mp 0 5 0 0))), (.s 33, some (.v (.d (.row .bor 3 (Rw GMov.cells x.2.2.2.2.2.2.2.2.1))))), (.s 34, some (.v (V.int x.2.2.2.2.2.2.2.2.2.1))), (.s 35, some (.v (V.int x.2.2.2.2.2.2.2.2.2.2))), (.r 0, some (.o 5 [[.d (.row .bor 3 (Rw GMov.cells x.2.1)), V.int x.2.2.1, V.int x.2.2.2.1, .d (.row .bor 2 (Rw GI2.cells x.2.2.2.2.1)), V.int x.2.2.2.2.2.1]]))]) (fun x => Yes (impl_prog_insRight.l2 x.1 x.2.1 x.2.2.1 x.2.2.2.1 x.2.2.2.2.1 x.2.2.2.2.2.1 x.2.2.2.2.2.2.1 x.2.2.2.2.2.2.2.1 x.2.2.2.2.2.2.2.2.1 x.2.2.2.2.2.2.2.2.2.1 x.2.2.2.2.2.2.2.2.2.2) o2) (_, _, _, _, _, _, _, _, _, _, _) h ?_
       rintro ⟨_ | k, a1, a2, a3, a4, a5, a6, a7, a8, a9, a10⟩ h
       · simp only [impl_prog_insRight.l2] at h; exact h.none
       simp only [impl_prog_insRight.l2] at h
   )
    | (with_reducible refine here_join (a := (.seq (.region 1 _ _) _)) (b := (.seq (.seq (.region 3 _ _) _) _)) ?_
       revert h
       with_reducible refine bind_elimY ?_
       intro o1 h hK
       unfold impl_prog_insRight.a1 at h
       refine sw_join (ι := (List GMov) × Int × Int × (List GI2) × Int × Gprog × Int) 10000000 (fun x => [(.s 0, some (.v (.d (.ptr .bor [.row .bor 3 (Rw (GFunc.cells .bor) x.2.2.2.2.2.1.program.funcs), .row .bor 1 (Rw (cL .bor 1 (cI .i64)) x.2.2.2.2.2.1.h)])))), (.s 1, some (.v (V.int x.2.2.2.2.2.2))), (.s 5, some (.v (.mp 0 5 0 0))), (.r 0, some (.o 5 [[.d (.row .bor 3 (Rw GMov.cells x.1)), V.int x.2.1, V.int x.2.2.1, .d (.row .bor 2 (Rw GI2.cells x.2.2.2.1)), V.int x.2.2.2.2.1]]))]) (fun x => Yes (some (.inr x)) o1) ?_ ?_
       rotate_left
       rintro ⟨b1, b2, b3, b4, b5, b6, b7⟩ h
       obtain rfl := h.get
       have h := hK
       clear hK
       (try (simp only [Sum.elim_inl, Sum.elim_inr] at h))
       refine sw_gh ?_
       refine gh_sw ?_))
 | (with_reducible refine here_next ?_
    first | refine nxA (_, _, _, _, _, _, _, _, _, _, _) h)
 | (with_reducible refine here_meet ?_
    first | refine mtA (_, _, _, _, _, _, _) h | refine mtA (_, _, _, _, _, _, _, _) h | refine mtA (_, _, _, _, _, _, _, _, _) h)
 | with_reducible refine sw_seq ?_
 | with_reducible refine seqQ_ret ?_
 | with_reducible refine seqQ_exit ?_
 | ((with_reducible refine wp_ite ?_ ?_)
    all_goals (intro hc; (try (simp only [Bool.not_eq_true, Bool.not_eq_false] at hc)); simp only [hc]))
 | (with_reducible refine rskip (hs := ?_) (h2 := ?_)
    · simp only [lkd, lkb, reduceCtorEq, Nat.reduceEqDiff]; done)
 | (with_reducible refine ryes (hs := ?_) (h := ?_)
    · simp only [lkd, lkb, reduceCtorEq, Nat.reduceEqDiff]; done)
 | (with_reducible refine rno (hs := ?_) (h := ?_)
    · simp only [lkd, lkb, reduceCtorEq, Nat.reduceEqDiff, Bool.not_true, Bool.not_false]; done)
 | (with_reducible apply regW_guardN
    · simp only [dstOk, Nat.reduceLT]
    · rfl
    · simp only [lkd, lkb, reduceCtorEq, Nat.reduceEqDiff]; rfl
    all_goals (intro hc; (try (simp only [Bool.not_true, Bool.not_false] at hc))))
 | (with_reducible apply sw_cond
    · simp only [lkd, lkb, reduceCtorEq, Nat.reduceEqDiff]; rfl
    all_goals (intro hc; try (cases hc; done)))
 | ((first
     | ((with_reducible refine gh_ret ?_)
        revert h
        with_reducible refine some_elim ?_
        rintro rfl)
     | (with_reducible refine here_call ?_
        revert h
        with_reducible refine bind_elim ?_
        intro t ht h
        (first
          | ((first
              | ((with_reducible refine here_call (f := 64) ?_); refine call_dataE (c_impl_verify ht) ?_ rfl ?_)
              | ((with_reducible refine here_call (f := 65) ?_); refine call_dataE (c_impl_hasFunc ht) ?_ rfl ?_)
              | ((with_reducible refine here_call (f := 86) ?_); refine call_dataE (c_impl_someAll ht) ?_ rfl ?_)
              | ((with_reducible refine here_call (f := 87) ?_); refine call_dataE (c_impl_isLoc ht) ?_ rfl ?_)
              | ((with_reducible refine here_call (f := 88) ?_); refine call_dataE (c_impl_Val_some ht) ?_ rfl ?_)
              | ((with_reducible refine here_call (f := 89) ?_); refine call_dataE (c_impl_prog_place ht) ?_ rfl ?_)
              | ((with_reducible refine here_call (f := 90) ?_); refine call_dataE (c_impl_Takes ht) ?_ rfl ?_)
              | ((with_reducible refine here_call (f := 91) ?_); refine call_dataE (c_impl_isArith ht) ?_ rfl ?_)
              | ((with_reducible refine here_call (f := 79) ?_); refine call_dataE (c_spec_Verify ht) ?_ rfl ?_)
              | ((with_reducible refine here_call (f := 30) ?_); refine call_dataE (c_laws_eqAsmInsS ht) ?_ rfl ?_)
              | ((with_reducible refine here_call (f := 31) ?_); refine call_dataE (c_laws_eqValSS ht) ?_ rfl ?_)
              | ((with_reducible refine here_call (f := 22) ?_); refine call_dataE (c_laws_toAsmInsS ht) ?_ rfl ?_)
              | ((with_reducible refine here_call (f := 23) ?_); refine call_dataE (c_laws_toValSS ht) ?_ rfl ?_))
             · first | rfl | (simp; done))))
     | (with_reducible (first | refine ropD (h := ?_) | refine ropW (h := ?_))
        intro k hk)
     | skip)
    simp only [bn, lkb, evb, evd, Value.oneCell', setSeg, reduceCtorEq, Nat.reduceAdd, Nat.reduceMul, Nat.reduceSub, Nat.reduceLT, Nat.reduceLeDiff, Nat.reduceEqDiff, Int.reduceNeg, Int.reduceToNat, ty2, ty3, ty4, ty25, ty26, ty28, ty32, ty34, ty36, ty37, ty39, ty50, ty51, ty53, ty56, ty58, ty71, ty72, ty74, ty77, ty79, ty80, ty82, ty90, ty105, ty113, ty114, ty118, ty135, GAsm.cells, GAsmIns.cells, GFunc.cells, GI2.cells, GI3.cells, GMov.cells, GProgram.cells, Gprog.cells, cI, cB, cS, cL, GI2_e, GFunc_e, GProgram_e, Gprog_e, GMov_e, GAsmIns_e, GAsm_e, GI3_e, LcIi64_e, LGI2_e, buildP, buildSliceP, putParts, structPlaces, chunks, List.replicate, List.flatten_nil, List.flatten_cons, Option.bind_some, nilEqP, ne_eq, not_false_eq_true, not_true_eq_false, *]
    try (refine hk.use _ _ _ _ ?_; clear hk k))
 | fail)
  all_goals (try rfl)
  all_goals (try (simp; done))
  all_goals (try (simp_all; done))
def c_impl_known := @And.left _ _ ge8
def c_impl_prog_insRight := @And.left _ _ (@And.right _ _ ge8)
def c_spec_l04Right := @And.left _ _ (@And.right _ _ (@And.right _ _ ge8))
def c_laws_eqAsm := @And.left _ _ (@And.right _ _ (@And.right _ _ (@And.right _ _ ge8)))
def c_laws_toAsm := (@And.right _ _ (@And.right _ _ (@And.right _ _ (@And.right _ _ ge8))))
end Go.Proofs.YtfdgjiifeijjfaaGreatDoor