/- WHAT IS PROVED: an abstract walker over the model, what some functions of the program answer, and laws of these answers. Conditions: none. -/
import Derived.Test.YtfdgjiifeijjfaaGreatDoorKe7
namespace Go.Proofs.YtfdgjiifeijjfaaGreatDoor
open Go.Proofs Go.Proofs.YtfdgjiifeijjfaaGreatDoor.L
set_option maxHeartbeats 8000000
set_option linter.unusedSimpArgs false
set_option linter.unusedVariables false
set_option maxRecDepth 100000
set_option linter.defProp false
def impl_Val_some (p0 : GI2) : Option (Bool) :=
  cond ((p0.a != 0)) ((impl_Val_right p0).bind fun t1 => some t1) (some false)
def impl_heightsOf.l1 : Nat → (List GFunc) → (List Int) → (List Bool) → (List GI2) → Int → Int → Option ((List GFunc) × (List Int) × (List Bool) × (List GI2))
  | 0, _, _, _, _, _, _ => none
  | k + 1, a1, a2, a3, a4, a5, a6 => cond ((decide (a6 < a5))) ((idx a2 a6).bind fun m2 => impl_heightsOf.l1 k a1 ((a2.set a6.toNat ((-1)))) a3 a4 a5 ((IntKind.i64.wrap (a6 + 1)))) (some (a1, a2, a3, a4))
def impl_heightsOf.a3 (k : Nat) (a1 : (List GFunc)) (a2 : (List Int)) (a3 : (List Bool)) (a4 : GI2) (a5 : (List GI2)) (a6 : Int) (a7 : Int) : Option (((List Int) × Int × Int) ⊕ ((List GFunc) × (List Int) × (List Bool) × GI2 × (List GI2) × Int × Int)) :=
  cond ((decide (a7 < 0))) (some (.inl (a2, a6, 5))) ((impl_Puts a4).bind fun t9 => cond ((decide (((IntKind.i64.wrap (a7 + t9))) > 8))) (some (.inl (a2, a6, 5))) (some (.inr (a1, a2, a3, a4, a5, a6, a7))))
def impl_heightsOf.a5 (k : Nat) (a1 : (List GFunc)) (a2 : (List Int)) (a3 : (List Bool)) (a4 : GI2) (a5 : (List Int)) (a6 : (List GI2)) (a7 : Int) (a8 : Int) (a9 : Int) (a10 : Int) (a11 : Int) (a12 : Int) : Option (((List Int) × Int × Int) ⊕ ((List GFunc) × (List Int) × (List Bool) × GI2 × (List Int) × (List GI2) × Int × Int × Int × Int × Int × Int)) :=
  (idx a2 a10).bind fun m12 => cond ((decide (m12 ≥ 0))) ((impl_Puts a4).bind fun t13 => cond ((m12 != ((IntKind.i64.wrap (a8 + t13))))) (some (.inl (a2, a7, 5))) (some (.inr (a1, a2, a3, a4, a5, a6, a7, a8, a9, a10, a11, a12)))) (some (.inr (a1, a2, a3, a4, a5, a6, a7, a8, a9, a10, a11, a12)))
def impl_heightsOf.l4 : Nat → (List GFunc) → (List Int) → (List Bool) → GI2 → (List Int) → (List GI2) → Int → Int → Int → Int → Int → Option (((List Int) × Int × Int) ⊕ ((List GFunc) × (List Int) × (List Bool) × (List GI2) × Int))
  | 0, _, _, _, _, _, _, _, _, _, _, _ => none
  | k + 1, a1, a2, a3, a4, a5, a6, a7, a8, a9, a10, a11 => cond ((decide (a11 < a10))) ((idx a5 a11).bind fun m11 => cond ((m11 == ((a6.length : Int)))) (some (.inl (a2, a7, 6))) ((impl_heightsOf.a5 k a1 a2 a3 a4 a5 a6 a7 a8 a9 m11 a10 a11).bind fun o5 => Sum.elim (fun o5l => some (.inl (o5l.1, o5l.2.1, o5l.2.2))) (fun o5r => (idx o5r.2.1 o5r.2.2.2.2.2.2.2.2.2.1).bind fun m14 => cond ((decide (m14 < 0))) ((impl_Puts o5r.2.2.2.1).bind fun t15 => (idx o5r.2.2.1 o5r.2.2.2.2.2.2.2.2.2.1).bind fun m16 => impl_heightsOf.l4 k o5r.1 ((o5r.2.1.set o5r.2.2.2.2.2.2.2.2.2.1.toNat ((IntKind.i64.wrap (o5r.2.2.2.2.2.2.2.1 + t15))))) ((o5r.2.2.1.set o5r.2.2.2.2.2.2.2.2.2.1.toNat true)) o5r.2.2.2.1 o5r.2.2.2.2.1 o5r.2.2.2.2.2.1 o5r.2.2.2.2.2.2.1 o5r.2.2.2.2.2.2.2.1 ((if decide (o5r.2.2.2.2.2.2.2.2.2.1 < o5r.2.2.2.2.2.2.2.2.1) = true then o5r.2.2.2.2.2.2.2.2.2.1 else o5r.2.2.2.2.2.2.2.2.1)) o5r.2.2.2.2.2.2.2.2.2.2.1 ((IntKind.i64.wrap (o5r.2.2.2.2.2.2.2.2.2.2.2 + 1)))) (impl_heightsOf.l4 k o5r.1 o5r.2.1 o5r.2.2.1 o5r.2.2.2.1 o5r.2.2.2.2.1 o5r.2.2.2.2.2.1 o5r.2.2.2.2.2.2.1 o5r.2.2.2.2.2.2.2.1 o5r.2.2.2.2.2.2.2.2.1 o5r.2.2.2.2.2.2.2.2.2.2.1 ((IntKind.i64.wrap (o5r.2.2.2.2.2.2.2.2.2.2.2 + 1))))) o5)) (some (.inr (a1, a2, a3, a6, a9)))
def impl_heightsOf.l2 : Nat → (List GFunc) → (List Int) → (List Bool) → (List GI2) → Int → Option (((List Int) × Int × Int) ⊕ ((List Int)))
  | 0, _, _, _, _, _ => none
  | k + 1, a1, a2, a3, a4, a5 => cond ((decide (a5 < ((a4.length : Int))))) ((idx a3 a5).bind fun m5 => cond ((!m5)) (impl_heightsOf.l2 k a1 a2 a3 a4 ((IntKind.i64.wrap (a5 + 1)))) ((idx a4 a5).bind fun m6 => (idx a2 a5).bind fun m7 => (impl_Takes k ((⟨a1⟩ : GProgram)) m6).bind fun t8 => (impl_heightsOf.a3 k a1 a2 ((a3.set a5.toNat false)) m6 a4 a5 ((IntKind.i64.wrap (m7 - t8)))).bind fun o3 => Sum.elim (fun o3l => some (.inl (o3l.1, o3l.2.1, o3l.2.2))) (fun o3r => (impl_next o3r.2.2.2.1 o3r.2.2.2.2.2.1).bind fun t10 => (impl_heightsOf.l4 k o3r.1 o3r.2.1 o3r.2.2.1 o3r.2.2.2.1 t10 o3r.2.2.2.2.1 o3r.2.2.2.2.2.1 o3r.2.2.2.2.2.2 o3r.2.2.2.2.2.1 ((t10.length : Int)) 0).bind fun o4 => Sum.elim (fun o4l => some (.inl (o4l.1, o4l.2.1, o4l.2.2))) (fun o4r => impl_heightsOf.l2 k o4r.1 o4r.2.1 o4r.2.2.1 o4r.2.2.2.1 o4r.2.2.2.2) o4) o3)) (some (.inr (a2)))
def impl_heightsOf (k : Nat) (p0 : GProgram) (p1 : Int) : Option ((List Int) × Int × Int) :=
  (idx p0.funcs p1).bind fun m1 => gd (0 ≤ (m1.code.length : Int) ∧ ((m1.code.length : Int)) * 8 ≤ 35184372088832 ∧ (m1.code.length : Int) ≤ 35184372088832) (gd (0 ≤ (m1.code.length : Int) ∧ ((m1.code.length : Int)) * 1 ≤ 35184372088832 ∧ (m1.code.length : Int) ≤ 35184372088832) ((impl_heightsOf.l1 k p0.funcs ((List.replicate m1.code.length 0)) ((List.replicate m1.code.length false)) m1.code ((m1.code.length : Int)) 0).bind fun o1 => (idx o1.2.1 0).bind fun m3 => (idx o1.2.2.1 0).bind fun m4 => (impl_heightsOf.l2 k o1.1 ((o1.2.1.set 0 0)) ((o1.2.2.1.set 0 true)) o1.2.2.2 0).bind fun o2 => Sum.elim (fun o2l => some (o2l.1, o2l.2.1, o2l.2.2)) (fun o2r => some (o2r, 0, 0)) o2))
def impl_toText (p0 : Int) : Option (ByteArray) :=
  cond ((decide (p0 < 0))) (some ((⟨#[45]⟩ : ByteArray))) ((impl_loc p0).bind fun t1 => (impl_valText t1).bind fun t2 => some t2)
def spec_l04Func.a1 (k : Nat) (a1 : (List GFunc)) (a2 : GI3) (a3 : Int) (a4 : Int) (a5 : (List GI2)) (a6 : Int) : Option ((GI3) ⊕ ((List GFunc) × GI3 × Int × Int × (List GI2) × Int)) :=
  cond ((decide (a3 < 0))) (some (.inl ((⟨a6, 0, 1⟩ : GI3)))) (cond ((decide (a3 > 4))) (some (.inl ((⟨a6, 0, 1⟩ : GI3)))) (cond ((decide (a4 < a3))) (some (.inl ((⟨a6, 0, 1⟩ : GI3)))) (cond ((decide (a4 > 8))) (some (.inl ((⟨a6, 0, 1⟩ : GI3)))) (cond ((decide (((a5.length : Int)) < 1))) (some (.inl ((⟨a6, 0, 1⟩ : GI3)))) (cond ((decide (((a5.length : Int)) > 60))) (some (.inl ((⟨a6, 0, 1⟩ : GI3)))) (some (.inr (a1, a2, a3, a4, a5, a6))))))))
def spec_l04Func.l2 : Nat → (List GFunc) → GI3 → Int → Int → (List GI2) → Int → Int → Option ((GI3) ⊕ ((List GFunc) × GI3 × Int))
  | 0, _, _, _, _, _, _, _ => none
  | k + 1, a1, a2, a3, a4, a5, a6, a7 => cond ((decide (a7 < ((a5.length : Int))))) ((idx a5 a7).bind fun m2 => (spec_InsRight k ((⟨a1⟩ : GProgram)) a6 m2).bind fun t3 => cond ((!t3)) (some (.inl ((⟨a6, a7, 1⟩ : GI3)))) (spec_l04Func.l2 k a1 a2 a3 a4 a5 a6 ((IntKind.i64.wrap (a7 + 1))))) (some (.inr (a1, a2, a6)))
def spec_l04Func (k : Nat) (p0 : GProgram) (p1 : Int) : Option (GI3) :=
  (idx p0.funcs p1).bind fun m1 => (spec_l04Func.a1 k p0.funcs ((⟨0, 0, 0⟩ : GI3)) m1.args m1.locals m1.code p1).bind fun o1 => Sum.elim (fun o1l => some o1l) (fun o1r => (spec_l04Func.l2 k o1r.1 o1r.2.1 o1r.2.2.1 o1r.2.2.2.1 o1r.2.2.2.2.1 o1r.2.2.2.2.2 0).bind fun o2 => Sum.elim (fun o2l => some o2l) (fun o2r => (spec_l04Heights k ((⟨o2r.1⟩ : GProgram)) o2r.2.2).bind fun t4 => some t4.2) o2) o1
theorem ge5 : (∀ {p0 : GI2} {r : Bool}, impl_Val_some p0 = some r → Con Tryz.prog 88 [.agg [V.int p0.a, V.int p0.b]] [] (V.bool r) []) ∧
  (∀ {k : Nat} {p0 : GProgram} {p1 : Int} {r : (List Int) × Int × Int}, impl_heightsOf k p0 p1 = some r → Con Tryz.prog 83 [.agg [.d (.row .bor 3 (Rw (GFunc.cells .bor) p0.funcs))], V.int p1] [] (.tup [.d (.row .own 1 (Rw (cI .i64) r.1)), V.int r.2.1, V.int r.2.2]) []) ∧
  (∀ {p0 : Int} {r : ByteArray}, impl_toText p0 = some r → Con Tryz.prog 27 [V.int p0] [] (.d (.p (.string r))) []) ∧
  (∀ {k : Nat} {p0 : GProgram} {p1 : Int} {r : GI3}, spec_l04Func k p0 p1 = some r → Con Tryz.prog 98 [.agg [.d (.row .bor 3 (Rw (GFunc.cells .bor) p0.funcs))], V.int p1] [] (.agg [V.int r.a, V.int r.b, V.int r.c]) []) := by
  refine ⟨?_, ?_, ?_, ?_⟩
  all_goals intros
  all_goals rename_i h
  all_goals first
    | (with_reducible refine isf 88 ?_
       refine csw Tryz.func88 Tryz.call88 (by simp [Tryz.ntmps88]) (h := ?_)
       refine mkf 88 fun hF => ?_
       rw [Tryz.ntmps88, Tryz.results88]
       unfold impl_Val_some at h)
    | (with_reducible refine isf 83 ?_
       refine csw Tryz.func83 Tryz.call83 (by simp [Tryz.ntmps83]) (h := ?_)
       refine mkf 83 fun hF => ?_
       rw [Tryz.ntmps83, Tryz.results83]
       unfold impl_heightsOf at h)
    | (with_reducible refine isf 27 ?_
       refine csw Tryz.func27 Tryz.call27 (by simp [Tryz.ntmps27]) (h := ?_)
       refine mkf 27 fun hF => ?_
       rw [Tryz.ntmps27, Tryz.results27]
       unfold impl_toText at h)
    | (with_reducible refine isf 98 ?_
       refine csw Tryz.func98 Tryz.call98 (by simp [Tryz.ntmps98]) (h := ?_)
       refine mkf 98 fun hF => ?_
       rw [Tryz.ntmps98, Tryz.results98]
       unfold spec_l04Func at h)
  all_goals (replace h := Yes.mk h; simp only [entryS, entryO, Nat.reduceAdd, List.length_nil, List.length_cons])
  repeat' (first
 | (with_reducible (first | refine sw_reg ?_ | refine sw_ret ?_ | refine sw_skip ?_ | refine sw_block ?_ | refine sw_exit ?_ | refine seqQ_normal ?_ | refine blockQ_normal ?_ | refine blockQ_ret ?_ | refine blockQ_this ?_ | refine blockQ_other (by decide) ?_ | refine regW_nil ?_ | refine sw_draw mixed ?_ | refine retQ_ret ?_ | refine retQ_normal ?_))
 | (with_reducible refine regD_nil ?_
    refine ⟨by kernel_rfl, ?_⟩)
 | (revert h; (first | ((with_reducible refine idx_elim ?_); intro m hm1 hm2 hm3 h; (try (simp only [Int.reduceToNat] at hm3)); (try (revert hm3; (with_reducible apply same_elim); (focus (with_reducible assumption)); rintro rfl)); (try (simp only [List.length_set, List.length_cons, List.length_nil, List.length_replicate, Nat.reduceAdd, Int.cast_ofNat_Int, Nat.zero_add, List.length_append] at hm2))) | (with_reducible refine sidx_elim ?_; intro m hm1 hm3 h) | (with_reducible refine gd_elim ?_; intro hg h; try (have hg2 := hg.2; have hg := hg.1; (try (simp only [Nat.reduceLeDiff] at hg2)); (try (revert hg2; (with_reducible refine toNat_elim hg ?_); intro hg2 hg4)); try (have hg3 := hg2.2; have hg2 := hg2.1; (try (simp only [Nat.reduceLeDiff] at hg3))))) | (with_reducible refine condt_elim ?_ ?_; (focus (with_reducible assumption)); intro h) | (with_reducible refine condf_elim ?_ ?_; (focus (with_reducible assumption)); intro h)))
 | ((with_reducible first | refine pnR ?_ | refine pnE ?_ | refine pmR ?_ | refine pmE ?_)
    obtain rfl := h.get
    have h := hK
    clear hK
    (try (simp only [Sum.elim_inl, Sum.elim_inr] at h)))
 | ((with_reducible refine fi 83 ?_ ?_); (focus (with_reducible assumption))
    first
    | (with_reducible refine here_join (a := (.seq (.region 26 _ _) _)) (b := (.seq (.region 28 _ _) _)) ?_
       revert h
       with_reducible refine bind_elimY ?_
       intro o5 h hK
       unfold impl_heightsOf.a5 at h
       refine sw_join (ι := (List GFunc) × (List Int) × (List Bool) × GI2 × (List Int) × (List GI2) × Int × Int × Int × Int × Int × Int) 50000000 (fun x => [(.s 2, some (.v (.mp 0 1 0 0))), (.s 7, some (.v (.d (.row .bor 2 (Rw GI2.cells x.2.2.2.2.2.1))))), (.s 8, some (.v (.sl 896 1 0 x.2.1.length))), (.s 9, some (.v (.sl 1152 1 0 x.2.2.1.length))), (.s 11, some (.v (V.int x.2.2.2.2.2.2.1))), (.s 12, some (.v (.mp 20001088 2 0 0))), (.s 13, some (.v (V.int x.2.2.2.2.2.2.2.1))), (.s 14, some (.v (V.int x.2.2.2.2.2.2.2.2.1))), (.s 16, some (.v (V.int x.2.2.2.2.2.2.2.2.2.1))), (.s 82, some (.v (.sl 30000256 1 0 x.2.2.2.2.1.length))), (.s 83, some (.v (V.int x.2.2.2.2.2.2.2.2.2.2.1))), (.s 84, some (.v (V.int x.2.2.2.2.2.2.2.2.2.2.2))), (.r 0, some (.o 1 [[.d (.row .bor 3 (Rw (GFunc.cells .bor) x.1))]])), (.r 896, some (.o 1 (dd (Rw (cI .i64) x.2.1)))), (.r 1152, some (.o 1 (dd (Rw cB x.2.2.1)))), (.r 20001088, some (.o 2 [[V.int x.2.2.2.1.a, V.int x.2.2.2.1.b]])), (.r 30000256, some (.o 1 (dd (Rw (cI .i64) x.2.2.2.2.1))))]) (fun x => Yes (some (.inr x)) o5) ?_ ?_
       rotate_left
       rintro ⟨b1, b2, b3, b4, b5, b6, b7, b8, b9, b10, b11, b12⟩ h
       obtain rfl := h.get
       have h := hK
       clear hK
       (try (simp only [Sum.elim_inl, Sum.elim_inr] at h))
       refine sw_gh ?_
       refine gh_sw ?_)
    | (with_reducible refine here_loop (c := (.seq (.region 22 _ _) _)) ?_
       revert h
       with_reducible refine bind_elimY ?_
       intro o4 h hK
       refine lpA (β := (List GFunc) × (List Int) × (List Bool) × GI2 × (List Int) × (List GI2) × Int × Int × Int × Int × Int) 40000000 (fun x => [(.s 2, some (.v (.mp 0 1 0 0))), (.s 7, some (.v (.d (.row .bor 2 (Rw GI2.cells x.2.2.2.2.2.2.1))))), (.s 8, some (.v (.sl 896 1 0 x.2.2.1.length))), (.s 9, some (.v (.sl 1152 1 0 x.2.2.2.1.length))), (.s 11, some (.v (V.int x.2.2.2.2.2.2.2.1))), (.s 12, some (.v (.mp 20001088 2 0 0))), (.s 13, some (.v (V.int x.2.2.2.2.2.2.2.2.1))), (.s 14, some (.v (V.int x.2.2.2.2.2.2.2.2.2.1))), (.s 82, some (.v (.sl 30000256 1 0 x.2.2.2.2.2.1.length))), (.s 83, some (.v (V.int x.2.2.2.2.2.2.2.2.2.2.1))), (.s 84, some (.v (V.int x.2.2.2.2.2.2.2.2.2.2.2))), (.r 0, some (.o 1 [[.d (.row .bor 3 (Rw (GFunc.cells .bor) x.2.1))]])), (.r 896, some (.o 1 (dd (Rw (cI .i64) x.2.2.1)))), (.r 1152, some (.o 1 (dd (Rw cB x.2.2.2.1)))), (.r 20001088, some (.o 2 [[V.int x.2.2.2.2.1.a, V.int x.2.2.2.2.1.b]])), (.r 30000256, some (.o 1 (dd (Rw (cI .i64) x.2.2.2.2.2.1))))]) (fun x => Yes (impl_heightsOf.l4 x.1 x.2.1 x.2.2.1 x.2.2.2.1 x.2.2.2.2.1 x.2.2.2.2.2.1 x.2.2.2.2.2.2.1 x.2.2.2.2.2.2.2.1 x.2.2.2.2.2.2.2.2.1 x.2.2.2.2.2.2.2.2.2.1 x.2.2.2.2.2.2.2.2.2.2.1 x.2.2.2.2.2.2.2.2.2.2.2) o4) (_, _, _, _, _, _, _, _, _, _, _, _) h ?_
       rintro ⟨_ | k, a1, a2, a3, a4, a5, a6, a7, a8, a9, a10, a11⟩ h
       · simp only [impl_heightsOf.l4] at h; exact h.none
       simp only [impl_heightsOf.l4] at h
   )
    | (with_reducible refine here_join (a := (.seq (.region 18 _ _) _)) (b := (.seq (.region 20 _ _) _)) ?_
       revert h
       with_reducible refine bind_elimY ?_
       intro o3 h hK
       unfold impl_heightsOf.a3 at h
       refine sw_join (ι := (List GFunc) × (List Int) × (List Bool) × GI2 × (List GI2) × Int × Int) 30000000 (fun x => [(.s 2, some (.v (.mp 0 1 0 0))), (.s 7, some (.v (.d (.row .bor 2 (Rw GI2.cells x.2.2.2.2.1))))), (.s 8, some (.v (.sl 896 1 0 x.2.1.length))), (.s 9, some (.v (.sl 1152 1 0 x.2.2.1.length))), (.s 11, some (.v (V.int x.2.2.2.2.2.1))), (.s 12, some (.v (.mp 20001088 2 0 0))), (.s 13, some (.v (V.int x.2.2.2.2.2.2))), (.r 0, some (.o 1 [[.d (.row .bor 3 (Rw (GFunc.cells .bor) x.1))]])), (.r 896, some (.o 1 (dd (Rw (cI .i64) x.2.1)))), (.r 1152, some (.o 1 (dd (Rw cB x.2.2.1)))), (.r 20001088, some (.o 2 [[V.int x.2.2.2.1.a, V.int x.2.2.2.1.b]]))]) (fun x => Yes (some (.inr x)) o3) ?_ ?_
       rotate_left
       rintro ⟨b1, b2, b3, b4, b5, b6, b7⟩ h
       obtain rfl := h.get
       have h := hK
       clear hK
       (try (simp only [Sum.elim_inl, Sum.elim_inr] at h))
       refine sw_gh ?_
       refine gh_sw ?_)
    | (with_reducible refine here_loop (c := (.seq (.seq (.region 12 _ _) _) _)) ?_
       revert h
       with_reducible refine bind_elimY ?_
       intro o2 h hK
       refine lpA (β := (List GFunc) × (List Int) × (List Bool) × (List GI2) × Int) 20000000 (fun x => [(.s 2, some (.v (.mp 0 1 0 0))), (.s 7, some (.v (.d (.row .bor 2 (Rw GI2.cells x.2.2.2.2.1))))), (.s 8, some (.v (.sl 896 1 0 x.2.2.1.length))), (.s 9, some (.v (.sl 1152 1 0 x.2.2.2.1.length))), (.s 11, some (.v (V.int x.2.2.2.2.2))), (.r 0, some (.o 1 [[.d (.row .bor 3 (Rw (GFunc.cells .bor) x.2.1))]])), (.r 896, some (.o 1 (dd (Rw (cI .i64) x.2.2.1)))), (.r 1152, some (.o 1 (dd (Rw cB x.2.2.2.1))))]) (fun x => Yes (impl_heightsOf.l2 x.1 x.2.1 x.2.2.1 x.2.2.2.1 x.2.2.2.2.1 x.2.2.2.2.2) o2) (_, _, _, _, _, _) h ?_
       rintro ⟨_ | k, a1, a2, a3, a4, a5⟩ h
       · simp only [impl_heightsOf.l2] at h; exact h.none
       simp only [impl_heightsOf.l2] at h
   )
    | (with_reducible refine here_loop (c := (.seq (.region 5 _ _) _)) ?_
       revert h
       with_reducible refine bind_elimY ?_
       intro o1 h hK
       refine lpA (β := (List GFunc) × (List Int) × (List Bool) × (List GI2) × Int × Int) 10000000 (fun x => [(.s 2, some (.v (.mp 0 1 0 0))), (.s 7, some (.v (.d (.row .bor 2 (Rw GI2.cells x.2.2.2.2.1))))), (.s 8, some (.v (.sl 896 1 0 x.2.2.1.length))), (.s 9, some (.v (.sl 1152 1 0 x.2.2.2.1.length))), (.s 30, some (.v (V.int x.2.2.2.2.2.1))), (.s 31, some (.v (V.int x.2.2.2.2.2.2))), (.r 0, some (.o 1 [[.d (.row .bor 3 (Rw (GFunc.cells .bor) x.2.1))]])), (.r 896, some (.o 1 (dd (Rw (cI .i64) x.2.2.1)))), (.r 1152, some (.o 1 (dd (Rw cB x.2.2.2.1))))]) (fun x => Yes (impl_heightsOf.l1 x.1 x.2.1 x.2.2.1 x.2.2.2.1 x.2.2.2.2.1 x.2.2.2.2.2.1 x.2.2.2.2.2.2) o1) (_, _, _, _, _, _, _) h ?_
       rintro ⟨_ | k, a1, a2, a3, a4, a5, a6⟩ h
       · simp only [impl_heightsOf.l1] at h; exact h.none
       simp only [impl_heightsOf.l1] at h
   ))
 | ((with_reducible refine fi 98 ?_ ?_); (focus (with_reducible assumption))
    first
    | (with_reducible refine here_loop (c := (.seq (.seq (.region 5 _ _) _) _)) ?_
       revert h
       with_reducible refine bind_elimY ?_
       intro o2 h hK
       refine lpA (β := (List GFunc) × GI3 × Int × Int × (List GI2) × Int × Int) 20000000 (fun x => [(.s 1, some (.v (V.int x.2.2.2.2.2.2.1))), (.s 2, some (.v (.mp 0 1 0 0))), (.s 4, some (.v (.mp 64 3 0 0))), (.s 5, some (.v (.mp 448 3 0 0))), (.s 6, some (.v (V.int x.2.2.2.2.2.2.2))), (.r 0, some (.o 1 [[.d (.row .bor 3 (Rw (GFunc.cells .bor) x.2.1))]])), (.r 64, some (.o 3 [[V.int x.2.2.1.a, V.int x.2.2.1.b, V.int x.2.2.1.c]])), (.r 448, some (.o 3 [[V.int x.2.2.2.1, V.int x.2.2.2.2.1, .d (.row .bor 2 (Rw GI2.cells x.2.2.2.2.2.1))]]))]) (fun x => Yes (spec_l04Func.l2 x.1 x.2.1 x.2.2.1 x.2.2.2.1 x.2.2.2.2.1 x.2.2.2.2.2.1 x.2.2.2.2.2.2.1 x.2.2.2.2.2.2.2) o2) (_, _, _, _, _, _, _, _) h ?_
       rintro ⟨_ | k, a1, a2, a3, a4, a5, a6, a7⟩ h
       · simp only [spec_l04Func.l2] at h; exact h.none
       simp only [spec_l04Func.l2] at h
   )
    | (with_reducible refine here_join (a := (.seq (.region 2 _ _) _)) (b := (.seq (.seq (.region 4 _ _) _) _)) ?_
       revert h
       with_reducible refine bind_elimY ?_
       intro o1 h hK
       unfold spec_l04Func.a1 at h
       refine sw_join (ι := (List GFunc) × GI3 × Int × Int × (List GI2) × Int) 10000000 (fun x => [(.s 1, some (.v (V.int x.2.2.2.2.2))), (.s 2, some (.v (.mp 0 1 0 0))), (.s 4, some (.v (.mp 64 3 0 0))), (.s 5, some (.v (.mp 448 3 0 0))), (.r 0, some (.o 1 [[.d (.row .bor 3 (Rw (GFunc.cells .bor) x.1))]])), (.r 64, some (.o 3 [[V.int x.2.1.a, V.int x.2.1.b, V.int x.2.1.c]])), (.r 448, some (.o 3 [[V.int x.2.2.1, V.int x.2.2.2.1, .d (.row .bor 2 (Rw GI2.cells x.2.2.2.2.1))]]))]) (fun x => Yes (some (.inr x)) o1) ?_ ?_
       rotate_left
       rintro ⟨b1, b2, b3, b4, b5, b6⟩ h
       obtain rfl := h.get
       have h := hK
       clear hK
       (try (simp only [Sum.elim_inl, Sum.elim_inr] at h))
       refine sw_gh ?_
       refine gh_sw ?_))
 | (with_reducible refine here_next ?_
    first | refine nxA (_, _, _, _, _, _) h | refine nxA (_, _, _, _, _, _, _) h | refine nxA (_, _, _, _, _, _, _, _) h | refine nxA (_, _, _, _, _, _, _, _, _, _, _, _) h)
 | (with_reducible refine here_meet ?_
    first | refine mtA (_, _, _, _, _, _) h | refine mtA (_, _, _, _, _, _, _) h | refine mtA (_, _, _, _, _, _, _, _, _, _, _, _) h)
 | with_reducible refine sw_seq ?_
 | with_reducible refine seqQ_ret ?_
 | with_reducible refine seqQ_exit ?_
 | ((with_reducible refine fi 83 ?_ ?_); (focus (with_reducible assumption))
    first
    | (with_reducible refine gh_nilRow 4 .own 1 ?_ ?_
       · simp only [lkd, lkb, reduceCtorEq, Nat.reduceEqDiff]; done
       skip))
 | ((with_reducible refine wp_ite ?_ ?_)
    all_goals (intro hc; (try (simp only [Bool.not_eq_true, Bool.not_eq_false] at hc)); simp only [hc]))
 | (with_reducible refine rskip (hs := ?_) (h2 := ?_)
    · simp only [lkd, lkb, reduceCtorEq, Nat.reduceEqDiff]; done)
 | (with_reducible refine ryes (hs := ?_) (h := ?_)
    · simp only [lkd, lkb, reduceCtorEq, Nat.reduceEqDiff]; done)
 | (with_reducible refine rno (hs := ?_) (h := ?_)
    · simp only [lkd, lkb, reduceCtorEq, Nat.reduceEqDiff, Bool.not_true, Bool.not_false]; done)
 | (with_reducible apply regW_guardN
    · simp only [dstOk, Nat.reduceLT]
    · rfl
    · simp only [lkd, lkb, reduceCtorEq, Nat.reduceEqDiff]; rfl
    all_goals (intro hc; (try (simp only [Bool.not_true, Bool.not_false] at hc))))
 | (with_reducible apply sw_cond
    · simp only [lkd, lkb, reduceCtorEq, Nat.reduceEqDiff]; rfl
    all_goals (intro hc; try (cases hc; done)))
 | ((first
     | ((with_reducible refine gh_ret ?_)
        revert h
        with_reducible refine some_elim ?_
        rintro rfl)
     | (with_reducible refine here_call ?_
        revert h
        with_reducible refine bind_elim ?_
        intro t ht h
        (first
          | ((first
              | ((with_reducible refine here_call (f := 72) ?_); refine call_dataE (c_impl_Val_right ht) ?_ rfl ?_)
              | ((with_reducible refine here_call (f := 90) ?_); refine call_dataE (c_impl_Takes ht) ?_ rfl ?_)
              | ((with_reducible refine here_call (f := 99) ?_); refine call_dataE (c_impl_Puts ht) ?_ rfl ?_)
              | ((with_reducible refine here_call (f := 100) ?_); refine call_dataE (c_impl_next ht) ?_ rfl ?_)
              | ((with_reducible refine here_call (f := 26) ?_); refine call_dataE (c_impl_valText ht) ?_ rfl ?_)
              | ((with_reducible refine here_call (f := 46) ?_); refine call_dataE (c_impl_loc ht) ?_ rfl ?_)
              | ((with_reducible refine here_call (f := 36) ?_); refine call_dataE (c_spec_l04Heights ht) ?_ rfl ?_)
              | ((with_reducible refine here_call (f := 108) ?_); refine call_dataE (c_spec_InsRight ht) ?_ rfl ?_))
             · first | rfl | (simp; done))))
     | (with_reducible (first | refine ropD (h := ?_) | refine ropW (h := ?_))
        intro k hk)
     | skip)
    simp only [bn, lkb, evb, evd, Value.oneCell', setSeg, reduceCtorEq, Nat.reduceAdd, Nat.reduceMul, Nat.reduceSub, Nat.reduceLT, Nat.reduceLeDiff, Nat.reduceEqDiff, Int.reduceNeg, Int.reduceToNat, ty2, ty3, ty4, ty9, ty32, ty34, ty56, ty77, ty79, ty80, ty82, ty102, ty105, GFunc.cells, GI2.cells, GI3.cells, GProgram.cells, cI, cB, cS, cL, GI2_e, GFunc_e, GProgram_e, GI3_e, LcIi64_e, LGI2_e, buildP, buildSliceP, putParts, structPlaces, chunks, List.replicate, List.flatten_nil, List.flatten_cons, Option.bind_some, nilEqP, ne_eq, not_false_eq_true, not_true_eq_false, bst, *]
    try (refine hk.use _ _ _ _ ?_; clear hk k))
 | fail)
  all_goals (try rfl)
  all_goals (try (simp; done))
  all_goals (try (simp_all; done))
def c_impl_Val_some := @And.left _ _ ge5
def c_impl_heightsOf := @And.left _ _ (@And.right _ _ ge5)
def c_impl_toText := @And.left _ _ (@And.right _ _ (@And.right _ _ ge5))
def c_spec_l04Func := (@And.right _ _ (@And.right _ _ (@And.right _ _ ge5)))
set_option linter.defProp false
def spec_l10Ins.a1 (k : Nat) (a1 : (List GFunc)) (a2 : (List GMov)) (a3 : Int) (a4 : Int) (a5 : (List GI2)) (a6 : Int) (a7 : Int) : Option ((Bool) ⊕ ((List GFunc) × (List GMov) × Int × Int × (List GI2) × Int × Int)) :=
  cond ((decide (((a2.length : Int)) > 16))) (some (.inl (false))) (cond ((decide (((a5.length : Int)) > 16))) (some (.inl (false))) (some (.inr (a1, a2, a3, a4, a5, a6, a7))))
def spec_l10Ins.l2 : Nat → (List GFunc) → (List GMov) → Int → Int → (List GI2) → Int → Int → Int → Option ((Bool) ⊕ ((List GFunc) × (List GMov) × Int × Int × (List GI2) × Int × Int))
  | 0, _, _, _, _, _, _, _, _ => none
  | k + 1, a1, a2, a3, a4, a5, a6, a7, a8 => cond ((decide (a8 < ((a2.length : Int))))) ((idx a2 a8).bind fun m1 => (spec_l10Loc m1.to).bind fun t2 => cond ((!t2)) (some (.inl (false))) ((spec_l10Some m1.from0).bind fun t3 => cond ((!t3)) (some (.inl (false))) (spec_l10Ins.l2 k a1 a2 a3 a4 a5 a6 a7 ((IntKind.i64.wrap (a8 + 1)))))) (some (.inr (a1, a2, a3, a4, a5, a6, a7)))
def spec_l10Ins.l3 : Nat → (List GFunc) → (List GMov) → Int → Int → (List GI2) → Int → Int → Int → Option ((Bool) ⊕ ((List GFunc) × (List GMov) × Int × Int × (List GI2) × Int × Int))
  | 0, _, _, _, _, _, _, _, _ => none
  | k + 1, a1, a2, a3, a4, a5, a6, a7, a8 => cond ((decide (a8 < ((a5.length : Int))))) ((idx a5 a8).bind fun m4 => (spec_l10Some m4).bind fun t5 => cond ((!t5)) (some (.inl (false))) (spec_l10Ins.l3 k a1 a2 a3 a4 a5 a6 a7 ((IntKind.i64.wrap (a8 + 1))))) (some (.inr (a1, a2, a3, a4, a5, a6, a7)))
def spec_l10Ins.a5 (k : Nat) (a1 : (List GFunc)) (a2 : (List GMov)) (a3 : Int) (a4 : Int) (a5 : (List GI2)) (a6 : Int) (a7 : Int) (a8 : Int) : Option ((List GFunc) × (List GMov) × Int × Int × (List GI2) × Int × Int × Int × Bool) :=
  (spec_l03Binary a3).bind fun t7 => cond t7 (some (a1, a2, a3, a4, a5, a6, a7, a8, true)) ((spec_l03Unary a3).bind fun t8 => cond t8 (some (a1, a2, a3, a4, a5, a6, a7, a8, true)) (cond ((a3 == 34)) (some (a1, a2, a3, a4, a5, a6, a7, a8, true)) (cond ((a3 == 35)) (some (a1, a2, a3, a4, a5, a6, a7, a8, true)) (some (a1, a2, a3, a4, a5, a6, a7, a8, (a3 == 37))))))
def spec_l10Ins.a6 (k : Nat) (a1 : (List GFunc)) (a2 : (List GMov)) (a3 : Int) (a4 : Int) (a5 : (List GI2)) (a6 : Int) (a7 : Int) (a8 : Int) : Option ((List GFunc) × (List GMov) × Int × Int × (List GI2) × Int × Int × Int × Bool) :=
  cond ((a3 == 36)) (some (a1, a2, a3, a4, a5, a6, a7, a8, true)) (cond ((a3 == 38)) (some (a1, a2, a3, a4, a5, a6, a7, a8, true)) (some (a1, a2, a3, a4, a5, a6, a7, a8, (a3 == 33))))
def spec_l10Ins.a7 (k : Nat) (a1 : (List GFunc)) (a2 : (List GMov)) (a3 : Int) (a4 : Int) (a5 : (List GI2)) (a6 : Int) (a7 : Int) (a8 : Int) : Option ((List GFunc) × (List GMov) × Int × Int × (List GI2) × Int × Int × Int × Bool) :=
  cond ((a3 == 30)) (some (a1, a2, a3, a4, a5, a6, a7, a8, true)) (some (a1, a2, a3, a4, a5, a6, a7, a8, (a3 == 31)))
def spec_l10Ins.a4 (k : Nat) (a1 : (List GFunc)) (a2 : (List GMov)) (a3 : Int) (a4 : Int) (a5 : (List GI2)) (a6 : Int) (a7 : Int) (a8 : Int) : Option ((Bool) ⊕ ((List GFunc) × (List GMov) × Int × Int × (List GI2) × Int × Int)) :=
  cond ((a3 == 0)) (cond ((a4 == ((-1)))) (cond ((a8 == 0)) (some (.inl ((a6 == 0)))) (some (.inl (false)))) (some (.inl (false)))) (cond ((a3 == 1)) ((spec_l10Loc a4).bind fun t6 => cond t6 (cond ((a8 == 1)) (some (.inl ((a6 == 0)))) (some (.inl (false)))) (some (.inl (false)))) (cond ((a3 == 3)) (cond ((a4 == ((-1)))) (cond ((a8 == 1)) (cond ((a6 == 1)) (some (.inl (true))) (some (.inl ((a6 == 2))))) (some (.inl (false)))) (some (.inl (false)))) ((spec_l10Ins.a5 k a1 a2 a3 a4 a5 a6 a7 a8).bind fun o5 => cond o5.2.2.2.2.2.2.2.2 (cond ((o5.2.2.2.1 == ((-1)))) ((spec_Takes k ((⟨o5.1⟩ : GProgram)) ((⟨o5.2.2.1, 0⟩ : GI2))).bind fun t9 => cond ((o5.2.2.2.2.2.2.2.1 == t9)) (some (.inl ((o5.2.2.2.2.2.1 == 0)))) (some (.inl (false)))) ((spec_l10Loc o5.2.2.2.1).bind fun t10 => cond t10 ((spec_Takes k ((⟨o5.1⟩ : GProgram)) ((⟨o5.2.2.1, 0⟩ : GI2))).bind fun t11 => cond ((o5.2.2.2.2.2.2.2.1 == t11)) (some (.inl ((o5.2.2.2.2.2.1 == 0)))) (some (.inl (false)))) (some (.inl (false))))) ((spec_l10Ins.a6 k o5.1 o5.2.1 o5.2.2.1 o5.2.2.2.1 o5.2.2.2.2.1 o5.2.2.2.2.2.1 o5.2.2.2.2.2.2.1 o5.2.2.2.2.2.2.2.1).bind fun o6 => cond o6.2.2.2.2.2.2.2.2 (cond ((o6.2.2.2.1 == ((-1)))) ((spec_Takes k ((⟨o6.1⟩ : GProgram)) ((⟨o6.2.2.1, 0⟩ : GI2))).bind fun t12 => cond ((o6.2.2.2.2.2.2.2.1 == t12)) (some (.inl ((o6.2.2.2.2.2.1 == 0)))) (some (.inl (false)))) (some (.inl (false)))) ((spec_l10Ins.a7 k o6.1 o6.2.1 o6.2.2.1 o6.2.2.2.1 o6.2.2.2.2.1 o6.2.2.2.2.2.1 o6.2.2.2.2.2.2.1 o6.2.2.2.2.2.2.2.1).bind fun o7 => cond o7.2.2.2.2.2.2.2.2 (cond ((o7.2.2.2.1 == ((-1)))) ((spec_Takes k ((⟨o7.1⟩ : GProgram)) ((⟨o7.2.2.1, 0⟩ : GI2))).bind fun t13 => cond ((o7.2.2.2.2.2.2.2.1 == t13)) (cond ((decide (o7.2.2.2.2.2.1 ≥ 0))) ((idx o7.1 o7.2.2.2.2.2.2.1).bind fun m14 => some (.inl ((decide (o7.2.2.2.2.2.1 < ((m14.code.length : Int))))))) (some (.inl (false)))) (some (.inl (false)))) (some (.inl (false)))) (some (.inr (o7.1, o7.2.1, o7.2.2.1, o7.2.2.2.1, o7.2.2.2.2.1, o7.2.2.2.2.2.1, o7.2.2.2.2.2.2.2.1))))))))
def spec_l10Ins (k : Nat) (p0 : GProgram) (p1 : Int) (p2 : GAsmIns) : Option (Bool) :=
  (spec_l10Ins.a1 k p0.funcs p2.pre p2.op p2.to p2.l p2.t p1).bind fun o1 => Sum.elim (fun o1l => some o1l) (fun o1r => (spec_l10Ins.l2 k o1r.1 o1r.2.1 o1r.2.2.1 o1r.2.2.2.1 o1r.2.2.2.2.1 o1r.2.2.2.2.2.1 o1r.2.2.2.2.2.2 0).bind fun o2 => Sum.elim (fun o2l => some o2l) (fun o2r => (spec_l10Ins.l3 k o2r.1 o2r.2.1 o2r.2.2.1 o2r.2.2.2.1 o2r.2.2.2.2.1 o2r.2.2.2.2.2.1 o2r.2.2.2.2.2.2 0).bind fun o3 => Sum.elim (fun o3l => some o3l) (fun o3r => (spec_l10Ins.a4 k o3r.1 o3r.2.1 o3r.2.2.1 o3r.2.2.2.1 o3r.2.2.2.2.1 o3r.2.2.2.2.2.1 o3r.2.2.2.2.2.2 ((o3r.2.2.2.2.1.length : Int))).bind fun o4 => Sum.elim (fun o4l => some o4l) (fun o4r => cond ((o4r.2.2.1 == 32)) (cond ((o4r.2.2.2.1 == ((-1)))) (cond ((decide (o4r.2.2.2.2.2.1 ≥ 0))) (cond ((decide (o4r.2.2.2.2.2.1 < ((o4r.1.length : Int))))) ((idx o4r.1 o4r.2.2.2.2.2.1).bind fun m15 => some ((o4r.2.2.2.2.2.2 == m15.args))) (some false)) (some false)) ((spec_l10Loc o4r.2.2.2.1).bind fun t16 => cond t16 (cond ((decide (o4r.2.2.2.2.2.1 ≥ 0))) (cond ((decide (o4r.2.2.2.2.2.1 < ((o4r.1.length : Int))))) ((idx o4r.1 o4r.2.2.2.2.2.1).bind fun m17 => some ((o4r.2.2.2.2.2.2 == m17.args))) (some false)) (some false)) (some false))) (some false)) o4) o3) o2) o1
def spec_l19Loc (k : Nat) (p0 : Int) : Option (ByteArray) :=
  cond ((decide (p0 < 0))) (some ((⟨#[45]⟩ : ByteArray))) ((spec_ValText k ((⟨1, p0⟩ : GI2))).bind fun t1 => some t1)
def spec_l19Vals.l1 : Nat → (List GI2) → ByteArray → Int → Option (ByteArray)
  | 0, _, _, _ => none
  | k + 1, a1, a2, a3 => cond ((decide (a3 < ((a1.length : Int))))) (gd (a2.size + ((⟨#[32]⟩ : ByteArray)).size ≤ 9223372036854775807) ((idx a1 a3).bind fun m1 => (spec_ValText k m1).bind fun t2 => gd (((a2 ++ ((⟨#[32]⟩ : ByteArray)))).size + t2.size ≤ 9223372036854775807) (spec_l19Vals.l1 k a1 ((((a2 ++ ((⟨#[32]⟩ : ByteArray)))) ++ t2)) ((IntKind.i64.wrap (a3 + 1)))))) (some (a2))
def spec_l19Vals (k : Nat) (p0 : (List GI2)) : Option (ByteArray) :=
  (spec_l19Vals.l1 k p0 ((⟨#[]⟩ : ByteArray)) 0).bind fun o1 => some o1
def laws_eqAsmIns (k : Nat) (p0 : GAsmIns) (p1 : GAsmIns) : Option (Bool) :=
  (laws_eqMovS k p0.pre p1.pre).bind fun t1 => cond ((!t1)) (some false) (cond ((p0.op != p1.op)) (some false) (cond ((p0.to != p1.to)) (some false) ((laws_eqValS k p0.l p1.l).bind fun t2 => cond ((!t2)) (some false) (cond ((p0.t != p1.t)) (some false) (some true)))))
def laws_eqFuncS.l1 : Nat → (List GFunc) → (List GFunc) → Int → Option ((Bool) ⊕ (Unit))
  | 0, _, _, _ => none
  | k + 1, a1, a2, a3 => cond ((decide (a3 < ((a1.length : Int))))) ((idx a1 a3).bind fun m1 => (idx a2 a3).bind fun m2 => (laws_eqFunc k m1 m2).bind fun t3 => cond ((!t3)) (some (.inl (false))) (laws_eqFuncS.l1 k a1 a2 ((IntKind.i64.wrap (a3 + 1))))) (some (.inr ()))
def laws_eqFuncS (k : Nat) (p0 : (List GFunc)) (p1 : (List GFunc)) : Option (Bool) :=
  cond ((((p0.length : Int)) != ((p1.length : Int)))) (some false) ((laws_eqFuncS.l1 k p0 p1 0).bind fun o1 => Sum.elim (fun o1l => some o1l) (fun o1r => some true) o1)
def laws_szAsm (k : Nat) (p0 : GAsm) (p1 : Int) : Option (Int) :=
  (laws_szAsmInsS k p0.code p1).bind fun t1 => cond ((decide (t1 < 0))) (some ((-1))) ((laws_szValSS k p0.maps t1).bind fun t2 => cond ((decide (t2 < 0))) (some ((-1))) (some t2))
def laws_szProgram (k : Nat) (p0 : GProgram) (p1 : Int) : Option (Int) :=
  (laws_szFuncS k p0.funcs p1).bind fun t1 => cond ((decide (t1 < 0))) (some ((-1))) (some t1)
def laws_toAsmIns (k : Nat) (p0 : GAsmIns) : Option (GAsmIns) :=
  (laws_toMovS k p0.pre).bind fun t1 => (laws_toValS k p0.l).bind fun t2 => some ((⟨t1, p0.op, p0.to, t2, p0.t⟩ : GAsmIns))
def laws_toFuncS.l1 : Nat → (List GFunc) → (List GFunc) → Int → Option ((List GFunc))
  | 0, _, _, _ => none
  | k + 1, a1, a2, a3 => cond ((decide (a3 < ((a2.length : Int))))) ((idx a2 a3).bind fun m1 => (laws_toFunc k m1).bind fun t2 => (idx a1 a3).bind fun m3 => laws_toFuncS.l1 k ((a1.set a3.toNat t2)) a2 ((IntKind.i64.wrap (a3 + 1)))) (some (a1))
def laws_toFuncS (k : Nat) (p0 : (List GFunc)) : Option ((List GFunc)) :=
  gd (0 ≤ (p0.length : Int) ∧ ((p0.length : Int)) * 40 ≤ 35184372088832 ∧ (p0.length : Int) ≤ 35184372088832) ((laws_toFuncS.l1 k ((List.replicate p0.length (⟨0, 0, []⟩))) p0 0).bind fun o1 => some o1)
theorem ge6 : (∀ {k : Nat} {p0 : GProgram} {p1 : Int} {p2 : GAsmIns} {r : Bool}, spec_l10Ins k p0 p1 p2 = some r → Con Tryz.prog 37 [.agg [.d (.row .bor 3 (Rw (GFunc.cells .bor) p0.funcs))], V.int p1, .agg [.d (.row .bor 3 (Rw GMov.cells p2.pre)), V.int p2.op, V.int p2.to, .d (.row .bor 2 (Rw GI2.cells p2.l)), V.int p2.t]] [] (V.bool r) []) ∧
  (∀ {k : Nat} {p0 : Int} {r : ByteArray}, spec_l19Loc k p0 = some r → Con Tryz.prog 18 [V.int p0] [] (.d (.p (.string r))) []) ∧
  (∀ {k : Nat} {p0 : (List GI2)} {r : ByteArray}, spec_l19Vals k p0 = some r → Con Tryz.prog 17 [.d (.row .bor 2 (Rw GI2.cells p0))] [] (.d (.p (.string r))) []) ∧
  (∀ {k : Nat} {p0 : GAsmIns} {p1 : GAsmIns} {r : Bool}, laws_eqAsmIns k p0 p1 = some r → Con Tryz.prog 49 [.agg [.d (.row .bor 3 (Rw GMov.cells p0.pre)), V.int p0.op, V.int p0.to, .d (.row .bor 2 (Rw GI2.cells p0.l)), V.int p0.t], .agg [.d (.row .bor 3 (Rw GMov.cells p1.pre)), V.int p1.op, V.int p1.to, .d (.row .bor 2 (Rw GI2.cells p1.l)), V.int p1.t]] [] (V.bool r) []) ∧
  (∀ {k : Nat} {p0 : (List GFunc)} {p1 : (List GFunc)} {r : Bool}, laws_eqFuncS k p0 p1 = some r → Con Tryz.prog 29 [.d (.row .bor 3 (Rw (GFunc.cells .bor) p0)), .d (.row .bor 3 (Rw (GFunc.cells .bor) p1))] [] (V.bool r) []) ∧
  (∀ {k : Nat} {p0 : GAsm} {p1 : Int} {r : Int}, laws_szAsm k p0 p1 = some r → Con Tryz.prog 5 [.agg [V.int p0.func0, .d (.row .bor 5 (Rw (GAsmIns.cells .bor) p0.code)), .d (.row .bor 1 (Rw (cL .bor 2 GI2.cells) p0.maps))], V.int p1] [] (V.int r) []) ∧
  (∀ {k : Nat} {p0 : GProgram} {p1 : Int} {r : Int}, laws_szProgram k p0 p1 = some r → Con Tryz.prog 4 [.agg [.d (.row .bor 3 (Rw (GFunc.cells .bor) p0.funcs))], V.int p1] [] (V.int r) []) ∧
  (∀ {k : Nat} {p0 : GAsmIns} {r : GAsmIns}, laws_toAsmIns k p0 = some r → Con Tryz.prog 41 [.agg [.d (.row .bor 3 (Rw GMov.cells p0.pre)), V.int p0.op, V.int p0.to, .d (.row .bor 2 (Rw GI2.cells p0.l)), V.int p0.t]] [] (.agg [.d (.row .own 3 (Rw GMov.cells r.pre)), V.int r.op, V.int r.to, .d (.row .own 2 (Rw GI2.cells r.l)), V.int r.t]) []) ∧
  (∀ {k : Nat} {p0 : (List GFunc)} {r : (List GFunc)}, laws_toFuncS k p0 = some r → Con Tryz.prog 21 [.d (.row .bor 3 (Rw (GFunc.cells .bor) p0))] [] (.d (.row .own 3 (Rw (GFunc.cells .own) r))) []) := by
  refine ⟨?_, ?_, ?_, ?_, ?_, ?_, ?_, ?_, ?_⟩
  all_goals intros
  all_goals rename_i h
  all_goals first
    | (with_reducible refine isf 37 ?_
       refine csw Tryz.func37 Tryz.call37 (by simp [Tryz.ntmps37]) (h := ?_)
       refine mkf 37 fun hF => ?_
       rw [Tryz.ntmps37, Tryz.results37]
       unfold spec_l10Ins at h)
    | (with_reducible refine isf 18 ?_
       refine csw Tryz.func18 Tryz.call18 (by simp [Tryz.ntmps18]) (h := ?_)
       refine mkf 18 fun hF => ?_
       rw [Tryz.ntmps18, Tryz.results18]
       unfold spec_l19Loc at h)
    | (with_reducible refine isf 17 ?_
       refine csw Tryz.func17 Tryz.call17 (by simp [Tryz.ntmps17]) (h := ?_)
       refine mkf 17 fun hF => ?_
       rw [Tryz.ntmps17, Tryz.results17]
       unfold spec_l19Vals at h)
    | (with_reducible refine isf 49 ?_
       refine csw Tryz.func49 Tryz.call49 (by simp [Tryz.ntmps49]) (h := ?_)
       refine mkf 49 fun hF => ?_
       rw [Tryz.ntmps49, Tryz.results49]
       unfold laws_eqAsmIns at h)
    | (with_reducible refine isf 29 ?_
       refine csw Tryz.func29 Tryz.call29 (by simp [Tryz.ntmps29]) (h := ?_)
       refine mkf 29 fun hF => ?_
       rw [Tryz.ntmps29, Tryz.results29]
       unfold laws_eqFuncS at h)
    | (with_reducible refine isf 5 ?_
       refine csw Tryz.func5 Tryz.call5 (by simp [Tryz.ntmps5]) (h := ?_)
       refine mkf 5 fun hF => ?_
       rw [Tryz.ntmps5, Tryz.results5]
       unfold laws_szAsm at h)
    | (with_reducible refine isf 4 ?_
       refine csw Tryz.func4 Tryz.call4 (by simp [Tryz.ntmps4]) (h := ?_)
       refine mkf 4 fun hF => ?_
       rw [Tryz.ntmps4, Tryz.results4]
       unfold laws_szProgram at h)
    | (with_reducible refine isf 41 ?_
       refine csw Tryz.func41 Tryz.call41 (by simp [Tryz.ntmps41]) (h := ?_)
       refine mkf 41 fun hF => ?_
       rw [Tryz.ntmps41, Tryz.results41]
       unfold laws_toAsmIns at h)
    | (with_reducible refine isf 21 ?_
       refine csw Tryz.func21 Tryz.call21 (by simp [Tryz.ntmps21]) (h := ?_)
       refine mkf 21 fun hF => ?_
       rw [Tryz.ntmps21, Tryz.results21]
       unfold laws_toFuncS at h)
  all_goals (replace h := Yes.mk h; simp only [entryS, entryO, Nat.reduceAdd, List.length_nil, List.length_cons])
  repeat' (first
 | (with_reducible (first | refine sw_reg ?_ | refine sw_ret ?_ | refine sw_skip ?_ | refine sw_block ?_ | refine sw_exit ?_ | refine seqQ_normal ?_ | refine blockQ_normal ?_ | refine blockQ_ret ?_ | refine blockQ_this ?_ | refine blockQ_other (by decide) ?_ | refine regW_nil ?_ | refine sw_draw mixed ?_ | refine retQ_ret ?_ | refine retQ_normal ?_))
 | (with_reducible refine regD_nil ?_
    refine ⟨by kernel_rfl, ?_⟩)
 | (revert h; (first | ((with_reducible refine idx_elim ?_); intro m hm1 hm2 hm3 h; (try (simp only [Int.reduceToNat] at hm3)); (try (revert hm3; (with_reducible apply same_elim); (focus (with_reducible assumption)); rintro rfl)); (try (simp only [List.length_set, List.length_cons, List.length_nil, List.length_replicate, Nat.reduceAdd, Int.cast_ofNat_Int, Nat.zero_add, List.length_append] at hm2))) | (with_reducible refine sidx_elim ?_; intro m hm1 hm3 h) | (with_reducible refine gd_elim ?_; intro hg h; try (have hg2 := hg.2; have hg := hg.1; (try (simp only [Nat.reduceLeDiff] at hg2)); (try (revert hg2; (with_reducible refine toNat_elim hg ?_); intro hg2 hg4)); try (have hg3 := hg2.2; have hg2 := hg2.1; (try (simp only [Nat.reduceLeDiff] at hg3))))) | (with_reducible refine condt_elim ?_ ?_; (focus (with_reducible assumption)); intro h) | (with_reducible refine condf_elim ?_ ?_; (focus (with_reducible assumption)); intro h)))
 | ((with_reducible first | refine pnR ?_ | refine pnE ?_ | refine pmR ?_ | refine pmE ?_)
    obtain rfl := h.get
    have h := hK
    clear hK
    (try (simp only [Sum.elim_inl, Sum.elim_inr] at h)))
 | ((with_reducible refine fi 37 ?_ ?_); (focus (with_reducible assumption))
    first
    | (with_reducible refine here_join (a := (.region 24 _ _)) (b := (.cond (.tmp 192) _ _)) ?_
       revert h
       with_reducible refine bind_elimY ?_
       intro o7 h hK
       unfold spec_l10Ins.a7 at h
       refine sw_join (ι := (List GFunc) × (List GMov) × Int × Int × (List GI2) × Int × Int × Int × Bool) 70000000 (fun x => [(.s 1, some (.v (V.int x.2.2.2.2.2.2.1))), (.s 3, some (.v (.mp 0 1 0 0))), (.s 5, some (.v (.mp 64 5 0 0))), (.s 9, some (.v (V.int x.2.2.2.2.2.2.2.1))), (.s 192, some (.v (V.bool x.2.2.2.2.2.2.2.2))), (.r 0, some (.o 1 [[.d (.row .bor 3 (Rw (GFunc.cells .bor) x.1))]])), (.r 64, some (.o 5 [[.d (.row .bor 3 (Rw GMov.cells x.2.1)), V.int x.2.2.1, V.int x.2.2.2.1, .d (.row .bor 2 (Rw GI2.cells x.2.2.2.2.1)), V.int x.2.2.2.2.2.1]]))]) (fun x => Yes (some (x)) o7) ?_ ?_
       rotate_left
       rintro ⟨b1, b2, b3, b4, b5, b6, b7, b8, b9⟩ h
       obtain rfl := h.get
       have h := hK
       clear hK
       (try (simp only [Sum.elim_inl, Sum.elim_inr] at h))
       refine sw_gh ?_
       refine gh_sw ?_)
    | (with_reducible refine here_join (a := (.region 22 _ _)) (b := (.cond (.tmp 161) _ _)) ?_
       revert h
       with_reducible refine bind_elimY ?_
       intro o6 h hK
       unfold spec_l10Ins.a6 at h
       refine sw_join (ι := (List GFunc) × (List GMov) × Int × Int × (List GI2) × Int × Int × Int × Bool) 60000000 (fun x => [(.s 1, some (.v (V.int x.2.2.2.2.2.2.1))), (.s 3, some (.v (.mp 0 1 0 0))), (.s 5, some (.v (.mp 64 5 0 0))), (.s 9, some (.v (V.int x.2.2.2.2.2.2.2.1))), (.s 161, some (.v (V.bool x.2.2.2.2.2.2.2.2))), (.r 0, some (.o 1 [[.d (.row .bor 3 (Rw (GFunc.cells .bor) x.1))]])), (.r 64, some (.o 5 [[.d (.row .bor 3 (Rw GMov.cells x.2.1)), V.int x.2.2.1, V.int x.2.2.2.1, .d (.row .bor 2 (Rw GI2.cells x.2.2.2.2.1)), V.int x.2.2.2.2.2.1]]))]) (fun x => Yes (some (x)) o6) ?_ ?_
       rotate_left
       rintro ⟨b1, b2, b3, b4, b5, b6, b7, b8, b9⟩ h
       obtain rfl := h.get
       have h := hK
       clear hK
       (try (simp only [Sum.elim_inl, Sum.elim_inr] at h))
       refine sw_gh ?_
       refine gh_sw ?_)
    | (with_reducible refine here_join (a := (.region 20 _ _)) (b := (.cond (.tmp 115) _ _)) ?_
       revert h
       with_reducible refine bind_elimY ?_
       intro o5 h hK
       unfold spec_l10Ins.a5 at h
       refine sw_join (ι := (List GFunc) × (List GMov) × Int × Int × (List GI2) × Int × Int × Int × Bool) 50000000 (fun x => [(.s 1, some (.v (V.int x.2.2.2.2.2.2.1))), (.s 3, some (.v (.mp 0 1 0 0))), (.s 5, some (.v (.mp 64 5 0 0))), (.s 9, some (.v (V.int x.2.2.2.2.2.2.2.1))), (.s 115, some (.v (V.bool x.2.2.2.2.2.2.2.2))), (.r 0, some (.o 1 [[.d (.row .bor 3 (Rw (GFunc.cells .bor) x.1))]])), (.r 64, some (.o 5 [[.d (.row .bor 3 (Rw GMov.cells x.2.1)), V.int x.2.2.1, V.int x.2.2.2.1, .d (.row .bor 2 (Rw GI2.cells x.2.2.2.2.1)), V.int x.2.2.2.2.2.1]]))]) (fun x => Yes (some (x)) o5) ?_ ?_
       rotate_left
       rintro ⟨b1, b2, b3, b4, b5, b6, b7, b8, b9⟩ h
       obtain rfl := h.get
       have h := hK
       clear hK
       (try (simp only [Sum.elim_inl, Sum.elim_inr] at h))
       refine sw_gh ?_
       refine gh_sw ?_)
    | (with_reducible refine here_join (a := (.block 4 _)) (b := (.seq (.region 26 _ _) _)) ?_
       revert h
       with_reducible refine bind_elimY ?_
       intro o4 h hK
       unfold spec_l10Ins.a4 at h
       refine sw_join (ι := (List GFunc) × (List GMov) × Int × Int × (List GI2) × Int × Int) 40000000 (fun x => [(.s 3, some (.v (.mp 0 1 0 0))), (.s 5, some (.v (.mp 64 5 0 0))), (.s 9, some (.v (V.int x.2.2.2.2.2.2))), (.r 0, some (.o 1 [[.d (.row .bor 3 (Rw (GFunc.cells .bor) x.1))]])), (.r 64, some (.o 5 [[.d (.row .bor 3 (Rw GMov.cells x.2.1)), V.int x.2.2.1, V.int x.2.2.2.1, .d (.row .bor 2 (Rw GI2.cells x.2.2.2.2.1)), V.int x.2.2.2.2.2.1]]))]) (fun x => Yes (some (.inr x)) o4) ?_ ?_
       rotate_left
       rintro ⟨b1, b2, b3, b4, b5, b6, b7⟩ h
       obtain rfl := h.get
       have h := hK
       clear hK
       (try (simp only [Sum.elim_inl, Sum.elim_inr] at h))
       refine sw_gh ?_
       refine gh_sw ?_)
    | (with_reducible refine here_loop (c := (.seq (.seq (.region 9 _ _) _) _)) ?_
       revert h
       with_reducible refine bind_elimY ?_
       intro o3 h hK
       refine lpA (β := (List GFunc) × (List GMov) × Int × Int × (List GI2) × Int × Int × Int) 30000000 (fun x => [(.s 1, some (.v (V.int x.2.2.2.2.2.2.2.1))), (.s 3, some (.v (.mp 0 1 0 0))), (.s 5, some (.v (.mp 64 5 0 0))), (.s 8, some (.v (V.int x.2.2.2.2.2.2.2.2))), (.r 0, some (.o 1 [[.d (.row .bor 3 (Rw (GFunc.cells .bor) x.2.1))]])), (.r 64, some (.o 5 [[.d (.row .bor 3 (Rw GMov.cells x.2.2.1)), V.int x.2.2.2.1, V.int x.2.2.2.2.1, .d (.row .bor 2 (Rw GI2.cells x.2.2.2.2.2.1)), V.int x.2.2.2.2.2.2.1]]))]) (fun x => Yes (spec_l10Ins.l3 x.1 x.2.1 x.2.2.1 x.2.2.2.1 x.2.2.2.2.1 x.2.2.2.2.2.1 x.2.2.2.2.2.2.1 x.2.2.2.2.2.2.2.1 x.2.2.2.2.2.2.2.2) o3) (_, _, _, _, _, _, _, _, _) h ?_
       rintro ⟨_ | k, a1, a2, a3, a4, a5, a6, a7, a8⟩ h
       · simp only [spec_l10Ins.l3] at h; exact h.none
       simp only [spec_l10Ins.l3] at h
   )
    | (with_reducible refine here_loop (c := (.seq (.seq (.region 4 _ _) _) _)) ?_
       revert h
       with_reducible refine bind_elimY ?_
       intro o2 h hK
       refine lpA (β := (List GFunc) × (List GMov) × Int × Int × (List GI2) × Int × Int × Int) 20000000 (fun x => [(.s 1, some (.v (V.int x.2.2.2.2.2.2.2.1))), (.s 3, some (.v (.mp 0 1 0 0))), (.s 5, some (.v (.mp 64 5 0 0))), (.s 7, some (.v (V.int x.2.2.2.2.2.2.2.2))), (.r 0, some (.o 1 [[.d (.row .bor 3 (Rw (GFunc.cells .bor) x.2.1))]])), (.r 64, some (.o 5 [[.d (.row .bor 3 (Rw GMov.cells x.2.2.1)), V.int x.2.2.2.1, V.int x.2.2.2.2.1, .d (.row .bor 2 (Rw GI2.cells x.2.2.2.2.2.1)), V.int x.2.2.2.2.2.2.1]]))]) (fun x => Yes (spec_l10Ins.l2 x.1 x.2.1 x.2.2.1 x.2.2.2.1 x.2.2.2.2.1 x.2.2.2.2.2.1 x.2.2.2.2.2.2.1 x.2.2.2.2.2.2.2.1 x.2.2.2.2.2.2.2.2) o2) (_, _, _, _, _, _, _, _, _) h ?_
       rintro ⟨_ | k, a1, a2, a3, a4, a5, a6, a7, a8⟩ h
       · simp only [spec_l10Ins.l2] at h; exact h.none
       simp only [spec_l10Ins.l2] at h
   )
    | (with_reducible refine here_join (a := (.seq (.region 1 _ _) _)) (b := (.seq (.seq (.region 3 _ _) _) _)) ?_
       revert h
       with_reducible refine bind_elimY ?_
       intro o1 h hK
       unfold spec_l10Ins.a1 at h
       refine sw_join (ι := (List GFunc) × (List GMov) × Int × Int × (List GI2) × Int × Int) 10000000 (fun x => [(.s 1, some (.v (V.int x.2.2.2.2.2.2))), (.s 3, some (.v (.mp 0 1 0 0))), (.s 5, some (.v (.mp 64 5 0 0))), (.r 0, some (.o 1 [[.d (.row .bor 3 (Rw (GFunc.cells .bor) x.1))]])), (.r 64, some (.o 5 [[.d (.row .bor 3 (Rw GMov.cells x.2.1)), V.int x.2.2.1, V.int x.2.2.2.1, .d (.row .bor 2 (Rw GI2.cells x.2.2.2.2.1)), V.int x.2.2.2.2.2.1]]))]) (fun x => Yes (some (.inr x)) o1) ?_ ?_
       rotate_left
       rintro ⟨b1, b2, b3, b4, b5, b6, b7⟩ h
       obtain rfl := h.get
       have h := hK
       clear hK
       (try (simp only [Sum.elim_inl, Sum.elim_inr] at h))
       refine sw_gh ?_
       refine gh_sw ?_))
 | ((with_reducible refine fi 17 ?_ ?_); (focus (with_reducible assumption))
    first
    | (with_reducible refine here_loop (c := (.seq (.seq (.region 3 _ _) _) _)) ?_
       revert h
       with_reducible refine bind_elimY ?_
       intro o1 h hK
       refine lpA (β := (List GI2) × ByteArray × Int) 10000000 (fun x => [(.s 0, some (.v (.d (.row .bor 2 (Rw GI2.cells x.2.1))))), (.s 3, some (.v (.d (.p (.string x.2.2.1))))), (.s 4, some (.v (V.int x.2.2.2)))]) (fun x => Yes (spec_l19Vals.l1 x.1 x.2.1 x.2.2.1 x.2.2.2) o1) (_, _, _, _) h ?_
       rintro ⟨_ | k, a1, a2, a3⟩ h
       · simp only [spec_l19Vals.l1] at h; exact h.none
       simp only [spec_l19Vals.l1] at h
   ))
 | ((with_reducible refine fi 29 ?_ ?_); (focus (with_reducible assumption))
    first
    | (with_reducible refine here_loop (c := (.seq (.seq (.region 4 _ _) _) _)) ?_
       revert h
       with_reducible refine bind_elimY ?_
       intro o1 h hK
       refine lpA (β := (List GFunc) × (List GFunc) × Int) 10000000 (fun x => [(.s 0, some (.v (.d (.row .bor 3 (Rw (GFunc.cells .bor) x.2.1))))), (.s 1, some (.v (.d (.row .bor 3 (Rw (GFunc.cells .bor) x.2.2.1))))), (.s 5, some (.v (V.int x.2.2.2)))]) (fun x => Yes (laws_eqFuncS.l1 x.1 x.2.1 x.2.2.1 x.2.2.2) o1) (_, _, _, _) h ?_
       rintro ⟨_ | k, a1, a2, a3⟩ h
       · simp only [laws_eqFuncS.l1] at h; exact h.none
       simp only [laws_eqFuncS.l1] at h
   ))
 | ((with_reducible refine fi 21 ?_ ?_); (focus (with_reducible assumption))
    first
    | (with_reducible refine here_loop (c := (.seq (.seq (.region 3 _ _) _) _)) ?_
       revert h
       with_reducible refine bind_elimY ?_
       intro o1 h hK
       refine sw_gh ?_
       (try (apply gh_zero (f := (GFunc.cells .own)) 256 ⟨0, 0, []⟩; (focus (simp only [lkd, lkb, reduceCtorEq, Nat.reduceEqDiff]; try rfl)); (focus (exact .cons .same (.cons .same (.cons .nil (.nil)))))))
       (try (apply gh_resRow 256; (focus (simp only [lkd, lkb, reduceCtorEq, Nat.reduceEqDiff]; try rfl)); (focus (first | (simp only [Rw_length, List.length_set]; omega) | (simp [Rw_length]; omega))); simp only [rxb, Nat.reduceAdd, Nat.reduceLeDiff, rxd, lkd, lkb, reduceCtorEq, Nat.reduceEqDiff, *, mmb, GI2_Dset, GFunc_Dset, GProgram_Dset, GMov_Dset, GAsmIns_Dset, GAsm_Dset, LGI2_Dset]))
       refine gh_sw ?_
       refine lpA (β := (List GFunc) × (List GFunc) × Int) 10000000 (fun x => [(.s 0, some (.v (.d (.row .bor 3 (Rw (GFunc.cells .bor) x.2.2.1))))), (.s 3, some (.v (.sl 256 3 0 x.2.1.length))), (.s 4, some (.v (V.int x.2.2.2))), (.r 256, some (.o 3 (dd (Rw (GFunc.cells .own) x.2.1))))]) (fun x => Yes (laws_toFuncS.l1 x.1 x.2.1 x.2.2.1 x.2.2.2) o1) (_, _, _, _) h ?_
       rintro ⟨_ | k, a1, a2, a3⟩ h
       · simp only [laws_toFuncS.l1] at h; exact h.none
       simp only [laws_toFuncS.l1] at h
   )
    | (with_reducible refine here_next (N0 := 10000000) ?_
       (try (apply gh_zero (f := (GFunc.cells .own)) 256 ⟨0, 0, []⟩; (focus (simp only [lkd, lkb, reduceCtorEq, Nat.reduceEqDiff]; try rfl)); (focus (exact .cons .same (.cons .same (.cons .nil (.nil)))))))
       (try (apply gh_resRow 256; (focus (simp only [lkd, lkb, reduceCtorEq, Nat.reduceEqDiff]; try rfl)); (focus (first | (simp only [Rw_length, List.length_set]; omega) | (simp [Rw_length]; omega))); simp only [rxb, Nat.reduceAdd, Nat.reduceLeDiff, rxd, lkd, lkb, reduceCtorEq, Nat.reduceEqDiff, *, mmb, GI2_Dset, GFunc_Dset, GProgram_Dset, GMov_Dset, GAsmIns_Dset, GAsm_Dset, LGI2_Dset]))
       refine nxA (_, _, _, _) h))
 | (with_reducible refine here_next ?_
    first | refine nxA (_, _, _, _) h | refine nxA (_, _, _, _, _, _, _, _, _) h)
 | (with_reducible refine here_meet ?_
    first | refine mtA (_, _, _, _, _, _, _) h | refine mtA (_, _, _, _, _, _, _, _, _) h)
 | with_reducible refine sw_seq ?_
 | with_reducible refine seqQ_ret ?_
 | with_reducible refine seqQ_exit ?_
 | ((with_reducible refine fi 21 ?_ ?_); (focus (with_reducible assumption))
    first
    | (with_reducible refine gh_nilRow 2 .own 3 ?_ ?_
       · simp only [lkd, lkb, reduceCtorEq, Nat.reduceEqDiff]; done
       skip))
 | ((with_reducible refine wp_ite ?_ ?_)
    all_goals (intro hc; (try (simp only [Bool.not_eq_true, Bool.not_eq_false] at hc)); simp only [hc]))
 | (with_reducible refine rskip (hs := ?_) (h2 := ?_)
    · simp only [lkd, lkb, reduceCtorEq, Nat.reduceEqDiff]; done)
 | (with_reducible refine ryes (hs := ?_) (h := ?_)
    · simp only [lkd, lkb, reduceCtorEq, Nat.reduceEqDiff]; done)
 | (with_reducible refine rno (hs := ?_) (h := ?_)
    · simp only [lkd, lkb, reduceCtorEq, Nat.reduceEqDiff, Bool.not_true, Bool.not_false]; done)
 | (with_reducible apply regW_guardN
    · simp only [dstOk, Nat.reduceLT]
    · rfl
    · simp only [lkd, lkb, reduceCtorEq, Nat.reduceEqDiff]; rfl
    all_goals (intro hc; (try (simp only [Bool.not_true, Bool.not_false] at hc))))
 | (with_reducible apply sw_cond
    · simp only [lkd, lkb, reduceCtorEq, Nat.reduceEqDiff]; rfl
    all_goals (intro hc; try (cases hc; done)))
 | ((first
     | ((with_reducible refine gh_ret ?_)
        revert h
        with_reducible refine some_elim ?_
        rintro rfl)
     | (with_reducible refine here_call ?_
        revert h
        with_reducible refine bind_elim ?_
        intro t ht h
        (first
          | ((first
              | ((with_reducible refine here_call (f := 55) ?_); refine call_dataE (c_spec_Takes ht) ?_ rfl ?_)
              | ((with_reducible refine here_call (f := 57) ?_); refine call_dataE (c_spec_l10Loc ht) ?_ rfl ?_)
              | ((with_reducible refine here_call (f := 58) ?_); refine call_dataE (c_spec_l10Some ht) ?_ rfl ?_)
              | ((with_reducible refine here_call (f := 59) ?_); refine call_dataE (c_spec_l03Binary ht) ?_ rfl ?_)
              | ((with_reducible refine here_call (f := 60) ?_); refine call_dataE (c_spec_l03Unary ht) ?_ rfl ?_)
              | ((with_reducible refine here_call (f := 19) ?_); refine call_dataE (c_spec_ValText ht) ?_ rfl ?_)
              | ((with_reducible refine here_call (f := 50) ?_); refine call_dataE (c_laws_eqValS ht) ?_ rfl ?_)
              | ((with_reducible refine here_call (f := 77) ?_); refine call_dataE (c_laws_eqMovS ht) ?_ rfl ?_)
              | ((with_reducible refine here_call (f := 48) ?_); refine call_dataE (c_laws_eqFunc ht) ?_ rfl ?_)
              | ((with_reducible refine here_call (f := 13) ?_); refine call_dataE (c_laws_szAsmInsS ht) ?_ rfl ?_)
              | ((with_reducible refine here_call (f := 14) ?_); refine call_dataE (c_laws_szValSS ht) ?_ rfl ?_)
              | ((with_reducible refine here_call (f := 12) ?_); refine call_dataE (c_laws_szFuncS ht) ?_ rfl ?_)
              | ((with_reducible refine here_call (f := 42) ?_); refine call_dataE (c_laws_toValS ht) ?_ rfl ?_)
              | ((with_reducible refine here_call (f := 62) ?_); refine call_dataE (c_laws_toMovS ht) ?_ rfl ?_)
              | ((with_reducible refine here_call (f := 40) ?_); refine call_dataE (c_laws_toFunc ht) ?_ rfl ?_))
             · first | rfl | (simp; done))))
     | (with_reducible (first | refine ropD (h := ?_) | refine ropW (h := ?_))
        intro k hk)
     | skip)
    simp only [bn, lkb, evb, evd, Value.oneCell', setSeg, reduceCtorEq, Nat.reduceAdd, Nat.reduceMul, Nat.reduceSub, Nat.reduceLT, Nat.reduceLeDiff, Nat.reduceEqDiff, Int.reduceNeg, Int.reduceToNat, ty2, ty3, ty4, ty9, ty22, ty24, ty25, ty26, ty28, ty32, ty34, ty50, ty51, ty53, ty56, ty58, ty67, ty69, ty71, ty72, ty74, ty77, ty79, ty105, ty113, ty132, ty135, GAsm.cells, GAsmIns.cells, GFunc.cells, GI2.cells, GMov.cells, GProgram.cells, cI, cB, cS, cL, GI2_e, GFunc_e, GProgram_e, GMov_e, GAsmIns_e, GAsm_e, LGI2_e, buildP, buildSliceP, putParts, structPlaces, chunks, List.replicate, List.flatten_nil, List.flatten_cons, Option.bind_some, nilEqP, ne_eq, not_false_eq_true, not_true_eq_false, bst, *]
    try (refine hk.use _ _ _ _ ?_; clear hk k))
 | fail)
  all_goals (try rfl)
  all_goals (try (simp; done))
  all_goals (try (simp_all; done))
def c_spec_l10Ins := @And.left _ _ ge6
def c_spec_l19Loc := @And.left _ _ (@And.right _ _ ge6)
def c_spec_l19Vals := @And.left _ _ (@And.right _ _ (@And.right _ _ ge6))
def c_laws_eqAsmIns := @And.left _ _ (@And.right _ _ (@And.right _ _ (@And.right _ _ ge6)))
def c_laws_eqFuncS := @And.left _ _ (@And.right _ _ (@And.right _ _ (@And.right _ _ (@And.right _ _ ge6))))
def c_laws_szAsm := @And.left _ _ (@And.right _ _ (@And.right _ _ (@And.right _ _ (@And.right _ _ (@And.right _ _ ge6)))))
def c_laws_szProgram := @And.left _ _ (@And.right _ _ (@And.right _ _ (@And.right _ _ (@And.right _ _ (@And.right _ _ (@And.right _ _ ge6))))))
def c_laws_toAsmIns := @And.left _ _ (@And.right _ _ (@And.right _ _ (@And.right _ _ (@And.right _ _ (@And.right _ _ (@And.right _ _ (@And.right _ _ ge6)))))))
def c_laws_toFuncS := (@And.right _ _ (@And.right _ _ (@And.right _ _ (@And.right _ _ (@And.right _ _ (@And.right _ _ (@And.right _ _ (@And.right _ _ ge6))))))))
end Go.Proofs.YtfdgjiifeijjfaaGreatDoor