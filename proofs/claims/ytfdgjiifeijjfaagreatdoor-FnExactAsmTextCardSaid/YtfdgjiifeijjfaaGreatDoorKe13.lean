/- WHAT IS PROVED: an abstract walker over the model, what some functions of the program answer, and laws of these answers. Conditions: none. -/
import Derived.Test.YtfdgjiifeijjfaaGreatDoorKe12
namespace Go.Proofs.YtfdgjiifeijjfaaGreatDoor
open Go.Proofs Go.Proofs.YtfdgjiifeijjfaaGreatDoor.L
set_option maxHeartbeats 8000000
set_option linter.unusedSimpArgs false
set_option linter.unusedVariables false
set_option maxRecDepth 100000
set_option linter.defProp false
def impl_AsmText.l2 : Nat → Int → (List GAsmIns) → (List (List GI2)) → (List GMov) → Int → Int → (List GI2) → Int → ByteArray → (List GAsmIns) → Int → Int → (List GI2) → Int → Int → Option (Int × (List GAsmIns) × (List (List GI2)) × (List GMov) × Int × Int × (List GI2) × Int × ByteArray × (List GAsmIns) × Int × Int)
  | 0, _, _, _, _, _, _, _, _, _, _, _, _, _, _, _ => none
  | k + 1, a1, a2, a3, a4, a5, a6, a7, a8, a9, a10, a11, a12, a13, a14, a15 => cond ((decide (a15 < a14))) ((idx a13 a15).bind fun m5 => (impl_valText m5).bind fun t6 => gd (((⟨#[32]⟩ : ByteArray)).size + t6.size ≤ 9223372036854775807) (gd (a9.size + ((((⟨#[32]⟩ : ByteArray)) ++ t6)).size ≤ 9223372036854775807) (impl_AsmText.l2 k a1 a2 a3 a4 a5 a6 a7 a8 ((a9 ++ ((((⟨#[32]⟩ : ByteArray)) ++ t6)))) a10 a11 a12 a13 a14 ((IntKind.i64.wrap (a15 + 1)))))) (some (a1, a2, a3, a4, a5, a6, a7, a8, a9, a10, a11, a12))
def impl_AsmText.l3 : Nat → Int → (List GAsmIns) → (List (List GI2)) → (List GMov) → Int → Int → (List GI2) → Int → ByteArray → (List GAsmIns) → Int → Int → (List GMov) → Int → Int → Option (Int × (List GAsmIns) × (List (List GI2)) × (List GMov) × Int × Int × (List GI2) × Int × ByteArray × (List GAsmIns) × Int × Int)
  | 0, _, _, _, _, _, _, _, _, _, _, _, _, _, _, _ => none
  | k + 1, a1, a2, a3, a4, a5, a6, a7, a8, a9, a10, a11, a12, a13, a14, a15 => cond ((decide (a15 < a14))) ((idx a13 a15).bind fun m7 => (impl_toText m7.to).bind fun t8 => gd (((⟨#[112, 114, 101, 32]⟩ : ByteArray)).size + t8.size ≤ 9223372036854775807) (gd (((((⟨#[112, 114, 101, 32]⟩ : ByteArray)) ++ t8)).size + ((⟨#[32]⟩ : ByteArray)).size ≤ 9223372036854775807) ((impl_valText m7.from0).bind fun t9 => gd (((((((⟨#[112, 114, 101, 32]⟩ : ByteArray)) ++ t8)) ++ ((⟨#[32]⟩ : ByteArray)))).size + t9.size ≤ 9223372036854775807) (gd (((((((((⟨#[112, 114, 101, 32]⟩ : ByteArray)) ++ t8)) ++ ((⟨#[32]⟩ : ByteArray)))) ++ t9)).size + ((⟨#[10]⟩ : ByteArray)).size ≤ 9223372036854775807) (gd (a9.size + ((((((((((⟨#[112, 114, 101, 32]⟩ : ByteArray)) ++ t8)) ++ ((⟨#[32]⟩ : ByteArray)))) ++ t9)) ++ ((⟨#[10]⟩ : ByteArray)))).size ≤ 9223372036854775807) (impl_AsmText.l3 k a1 a2 a3 a4 a5 a6 a7 a8 ((a9 ++ ((((((((((⟨#[112, 114, 101, 32]⟩ : ByteArray)) ++ t8)) ++ ((⟨#[32]⟩ : ByteArray)))) ++ t9)) ++ ((⟨#[10]⟩ : ByteArray)))))) a10 a11 a12 a13 a14 ((IntKind.i64.wrap (a15 + 1))))))))) (some (a1, a2, a3, a4, a5, a6, a7, a8, a9, a10, a11, a12))
def impl_AsmText.l4 : Nat → Int → (List GAsmIns) → (List (List GI2)) → ByteArray → (List GAsmIns) → Int → Int → (List GI2) → Int → Int → Option (Int × (List GAsmIns) × (List (List GI2)) × ByteArray × (List GAsmIns) × Int × Int)
  | 0, _, _, _, _, _, _, _, _, _, _ => none
  | k + 1, a1, a2, a3, a4, a5, a6, a7, a8, a9, a10 => cond ((decide (a10 < a9))) ((idx a8 a10).bind fun m13 => (impl_valText m13).bind fun t14 => gd (((⟨#[32]⟩ : ByteArray)).size + t14.size ≤ 9223372036854775807) (gd (a4.size + ((((⟨#[32]⟩ : ByteArray)) ++ t14)).size ≤ 9223372036854775807) (impl_AsmText.l4 k a1 a2 a3 ((a4 ++ ((((⟨#[32]⟩ : ByteArray)) ++ t14)))) a5 a6 a7 a8 a9 ((IntKind.i64.wrap (a10 + 1)))))) (some (a1, a2, a3, a4, a5, a6, a7))
def impl_AsmText.l1 : Nat → Int → (List GAsmIns) → (List (List GI2)) → ByteArray → (List GAsmIns) → Int → Int → Option (ByteArray)
  | 0, _, _, _, _, _, _, _ => none
  | k + 1, a1, a2, a3, a4, a5, a6, a7 => cond ((decide (a7 < a6))) ((idx a5 a7).bind fun m3 => gd (a4.size + ((⟨#[97, 116]⟩ : ByteArray)).size ≤ 9223372036854775807) ((idx a3 a7).bind fun m4 => (impl_AsmText.l2 k a1 a2 a3 m3.pre m3.op m3.to m3.l m3.t ((a4 ++ ((⟨#[97, 116]⟩ : ByteArray)))) a5 a6 a7 m4 ((m4.length : Int)) 0).bind fun o2 => gd (o2.2.2.2.2.2.2.2.2.1.size + ((⟨#[10]⟩ : ByteArray)).size ≤ 9223372036854775807) ((impl_AsmText.l3 k o2.1 o2.2.1 o2.2.2.1 o2.2.2.2.1 o2.2.2.2.2.1 o2.2.2.2.2.2.1 o2.2.2.2.2.2.2.1 o2.2.2.2.2.2.2.2.1 ((o2.2.2.2.2.2.2.2.2.1 ++ ((⟨#[10]⟩ : ByteArray)))) o2.2.2.2.2.2.2.2.2.2.1 o2.2.2.2.2.2.2.2.2.2.2.1 o2.2.2.2.2.2.2.2.2.2.2.2 o2.2.2.2.1 ((o2.2.2.2.1.length : Int)) 0).bind fun o3 => (impl_asmName o3.2.2.2.2.1).bind fun t10 => gd (t10.size + ((⟨#[32]⟩ : ByteArray)).size ≤ 9223372036854775807) ((impl_toText o3.2.2.2.2.2.1).bind fun t11 => gd (((t10 ++ ((⟨#[32]⟩ : ByteArray)))).size + t11.size ≤ 9223372036854775807) (gd (((((t10 ++ ((⟨#[32]⟩ : ByteArray)))) ++ t11)).size + ((⟨#[32]⟩ : ByteArray)).size ≤ 9223372036854775807) ((impl_digits o3.2.2.2.2.2.2.2.1).bind fun t12 => gd (((((((t10 ++ ((⟨#[32]⟩ : ByteArray)))) ++ t11)) ++ ((⟨#[32]⟩ : ByteArray)))).size + t12.size ≤ 9223372036854775807) (gd (o3.2.2.2.2.2.2.2.2.1.size + ((((((((t10 ++ ((⟨#[32]⟩ : ByteArray)))) ++ t11)) ++ ((⟨#[32]⟩ : ByteArray)))) ++ t12)).size ≤ 9223372036854775807) ((impl_AsmText.l4 k o3.1 o3.2.1 o3.2.2.1 ((o3.2.2.2.2.2.2.2.2.1 ++ ((((((((t10 ++ ((⟨#[32]⟩ : ByteArray)))) ++ t11)) ++ ((⟨#[32]⟩ : ByteArray)))) ++ t12)))) o3.2.2.2.2.2.2.2.2.2.1 o3.2.2.2.2.2.2.2.2.2.2.1 o3.2.2.2.2.2.2.2.2.2.2.2 o3.2.2.2.2.2.2.1 ((o3.2.2.2.2.2.2.1.length : Int)) 0).bind fun o4 => gd (o4.2.2.2.1.size + ((⟨#[10]⟩ : ByteArray)).size ≤ 9223372036854775807) (impl_AsmText.l1 k o4.1 o4.2.1 o4.2.2.1 ((o4.2.2.2.1 ++ ((⟨#[10]⟩ : ByteArray)))) o4.2.2.2.2.1 o4.2.2.2.2.2.1 ((IntKind.i64.wrap (o4.2.2.2.2.2.2 + 1)))))))))))) (some (a4))
def impl_AsmText (k : Nat) (p0 : GProgram) (p1 : GAsm) : Option (ByteArray) :=
  (impl_AsmRight k p0 p1).bind fun t1 => cond ((!t1)) (some ((⟨#[]⟩ : ByteArray))) ((impl_digits p1.func0).bind fun t2 => gd (((⟨#[99, 111, 100, 101, 32]⟩ : ByteArray)).size + t2.size ≤ 9223372036854775807) (gd (((((⟨#[99, 111, 100, 101, 32]⟩ : ByteArray)) ++ t2)).size + ((⟨#[10]⟩ : ByteArray)).size ≤ 9223372036854775807) ((impl_AsmText.l1 k p1.func0 p1.code p1.maps ((((((⟨#[99, 111, 100, 101, 32]⟩ : ByteArray)) ++ t2)) ++ ((⟨#[10]⟩ : ByteArray)))) p1.code ((p1.code.length : Int)) 0).bind fun o1 => some o1)))
def spec_AsmText.l2 : Nat → Int → (List GAsmIns) → (List (List GI2)) → (List GMov) → Int → Int → (List GI2) → Int → (List Int) → Int → Int → Option (Int × (List GAsmIns) × (List (List GI2)) × (List GMov) × Int × Int × (List GI2) × Int × (List Int) × Int)
  | 0, _, _, _, _, _, _, _, _, _, _, _ => none
  | k + 1, a1, a2, a3, a4, a5, a6, a7, a8, a9, a10, a11 => cond ((decide (a11 < ((a4.length : Int))))) ((idx a4 a11).bind fun m6 => (spec_l19Loc k m6.to).bind fun t7 => gd (((⟨#[112, 114, 101, 32]⟩ : ByteArray)).size + t7.size ≤ 9223372036854775807) (gd (((((⟨#[112, 114, 101, 32]⟩ : ByteArray)) ++ t7)).size + ((⟨#[32]⟩ : ByteArray)).size ≤ 9223372036854775807) ((spec_ValText k m6.from0).bind fun t8 => gd (((((((⟨#[112, 114, 101, 32]⟩ : ByteArray)) ++ t7)) ++ ((⟨#[32]⟩ : ByteArray)))).size + t8.size ≤ 9223372036854775807) (gd (((((((((⟨#[112, 114, 101, 32]⟩ : ByteArray)) ++ t7)) ++ ((⟨#[32]⟩ : ByteArray)))) ++ t8)).size + ((⟨#[10]⟩ : ByteArray)).size ≤ 9223372036854775807) (gd ((a9.length + ((((((((((⟨#[112, 114, 101, 32]⟩ : ByteArray)) ++ t7)) ++ ((⟨#[32]⟩ : ByteArray)))) ++ t8)) ++ ((⟨#[10]⟩ : ByteArray)))).size) * 1 ≤ 35184372088832 ∧ a9.length + ((((((((((⟨#[112, 114, 101, 32]⟩ : ByteArray)) ++ t7)) ++ ((⟨#[32]⟩ : ByteArray)))) ++ t8)) ++ ((⟨#[10]⟩ : ByteArray)))).size ≤ 35184372088832) (spec_AsmText.l2 k a1 a2 a3 a4 a5 a6 a7 a8 ((a9 ++ (bsL ((((((((((⟨#[112, 114, 101, 32]⟩ : ByteArray)) ++ t7)) ++ ((⟨#[32]⟩ : ByteArray)))) ++ t8)) ++ ((⟨#[10]⟩ : ByteArray))))))) a10 ((IntKind.i64.wrap (a11 + 1))))))))) (some (a1, a2, a3, a4, a5, a6, a7, a8, a9, a10))
def spec_AsmText.l1 : Nat → Int → (List GAsmIns) → (List (List GI2)) → (List Int) → Int → Option ((List Int))
  | 0, _, _, _, _, _ => none
  | k + 1, a1, a2, a3, a4, a5 => cond ((decide (a5 < ((a2.length : Int))))) ((idx a2 a5).bind fun m3 => (idx a3 a5).bind fun m4 => (spec_l19Vals k m4).bind fun t5 => gd (((⟨#[97, 116]⟩ : ByteArray)).size + t5.size ≤ 9223372036854775807) (gd (((((⟨#[97, 116]⟩ : ByteArray)) ++ t5)).size + ((⟨#[10]⟩ : ByteArray)).size ≤ 9223372036854775807) (gd ((a4.length + ((((((⟨#[97, 116]⟩ : ByteArray)) ++ t5)) ++ ((⟨#[10]⟩ : ByteArray)))).size) * 1 ≤ 35184372088832 ∧ a4.length + ((((((⟨#[97, 116]⟩ : ByteArray)) ++ t5)) ++ ((⟨#[10]⟩ : ByteArray)))).size ≤ 35184372088832) ((spec_AsmText.l2 k a1 a2 a3 m3.pre m3.op m3.to m3.l m3.t ((a4 ++ (bsL ((((((⟨#[97, 116]⟩ : ByteArray)) ++ t5)) ++ ((⟨#[10]⟩ : ByteArray))))))) a5 0).bind fun o2 => (spec_l19Name k o2.2.2.2.2.1).bind fun t9 => gd (t9.size + ((⟨#[32]⟩ : ByteArray)).size ≤ 9223372036854775807) ((spec_l19Loc k o2.2.2.2.2.2.1).bind fun t10 => gd (((t9 ++ ((⟨#[32]⟩ : ByteArray)))).size + t10.size ≤ 9223372036854775807) (gd (((((t9 ++ ((⟨#[32]⟩ : ByteArray)))) ++ t10)).size + ((⟨#[32]⟩ : ByteArray)).size ≤ 9223372036854775807) ((spec_l01Dec k o2.2.2.2.2.2.2.2.1).bind fun t11 => gd (((((((t9 ++ ((⟨#[32]⟩ : ByteArray)))) ++ t10)) ++ ((⟨#[32]⟩ : ByteArray)))).size + t11.size ≤ 9223372036854775807) ((spec_l19Vals k o2.2.2.2.2.2.2.1).bind fun t12 => gd (((((((((t9 ++ ((⟨#[32]⟩ : ByteArray)))) ++ t10)) ++ ((⟨#[32]⟩ : ByteArray)))) ++ t11)).size + t12.size ≤ 9223372036854775807) (gd (((((((((((t9 ++ ((⟨#[32]⟩ : ByteArray)))) ++ t10)) ++ ((⟨#[32]⟩ : ByteArray)))) ++ t11)) ++ t12)).size + ((⟨#[10]⟩ : ByteArray)).size ≤ 9223372036854775807) (gd ((o2.2.2.2.2.2.2.2.2.1.length + ((((((((((((t9 ++ ((⟨#[32]⟩ : ByteArray)))) ++ t10)) ++ ((⟨#[32]⟩ : ByteArray)))) ++ t11)) ++ t12)) ++ ((⟨#[10]⟩ : ByteArray)))).size) * 1 ≤ 35184372088832 ∧ o2.2.2.2.2.2.2.2.2.1.length + ((((((((((((t9 ++ ((⟨#[32]⟩ : ByteArray)))) ++ t10)) ++ ((⟨#[32]⟩ : ByteArray)))) ++ t11)) ++ t12)) ++ ((⟨#[10]⟩ : ByteArray)))).size ≤ 35184372088832) (spec_AsmText.l1 k o2.1 o2.2.1 o2.2.2.1 ((o2.2.2.2.2.2.2.2.2.1 ++ (bsL ((((((((((((t9 ++ ((⟨#[32]⟩ : ByteArray)))) ++ t10)) ++ ((⟨#[32]⟩ : ByteArray)))) ++ t11)) ++ t12)) ++ ((⟨#[10]⟩ : ByteArray))))))) ((IntKind.i64.wrap (o2.2.2.2.2.2.2.2.2.2 + 1)))))))))))))) (some (a4))
def spec_AsmText (k : Nat) (p0 : GProgram) (p1 : GAsm) : Option (ByteArray) :=
  (spec_AsmRight k p0 p1).bind fun t1 => cond ((!t1)) (some ((⟨#[]⟩ : ByteArray))) ((spec_l01Dec k p1.func0).bind fun t2 => gd (((⟨#[99, 111, 100, 101, 32]⟩ : ByteArray)).size + t2.size ≤ 9223372036854775807) (gd (((((⟨#[99, 111, 100, 101, 32]⟩ : ByteArray)) ++ t2)).size + ((⟨#[10]⟩ : ByteArray)).size ≤ 9223372036854775807) ((spec_AsmText.l1 k p1.func0 p1.code p1.maps ((bsL ((((((⟨#[99, 111, 100, 101, 32]⟩ : ByteArray)) ++ t2)) ++ ((⟨#[10]⟩ : ByteArray)))))) 0).bind fun o1 => some ((strL o1)))))
theorem ge11 : (∀ {k : Nat} {p0 : GProgram} {p1 : GAsm} {r : ByteArray}, impl_AsmText k p0 p1 = some r → Con Tryz.prog 9 [.agg [.d (.row .bor 3 (Rw (GFunc.cells .bor) p0.funcs))], .agg [V.int p1.func0, .d (.row .bor 5 (Rw (GAsmIns.cells .bor) p1.code)), .d (.row .bor 1 (Rw (cL .bor 2 GI2.cells) p1.maps))]] [] (.d (.p (.string r))) []) ∧
  (∀ {k : Nat} {p0 : GProgram} {p1 : GAsm} {r : ByteArray}, spec_AsmText k p0 p1 = some r → Con Tryz.prog 6 [.agg [.d (.row .bor 3 (Rw (GFunc.cells .bor) p0.funcs))], .agg [V.int p1.func0, .d (.row .bor 5 (Rw (GAsmIns.cells .bor) p1.code)), .d (.row .bor 1 (Rw (cL .bor 2 GI2.cells) p1.maps))]] [] (.d (.p (.string r))) []) := by
  refine ⟨?_, ?_⟩
  all_goals intros
  all_goals rename_i h
  all_goals first
    | (with_reducible refine isf 9 ?_
       refine csw Tryz.func9 Tryz.call9 (by simp [Tryz.ntmps9]) (h := ?_)
       refine mkf 9 fun hF => ?_
       rw [Tryz.ntmps9, Tryz.results9]
       unfold impl_AsmText at h)
    | (with_reducible refine isf 6 ?_
       refine csw Tryz.func6 Tryz.call6 (by simp [Tryz.ntmps6]) (h := ?_)
       refine mkf 6 fun hF => ?_
       rw [Tryz.ntmps6, Tryz.results6]
       unfold spec_AsmText at h)
  all_goals (replace h := Yes.mk h; simp only [entryS, entryO, Nat.reduceAdd, List.length_nil, List.length_cons])
  repeat' (first
 | (with_reducible (first | refine sw_reg ?_ | refine sw_ret ?_ | refine sw_skip ?_ | refine sw_block ?_ | refine sw_exit ?_ | refine seqQ_normal ?_ | refine blockQ_normal ?_ | refine blockQ_ret ?_ | refine blockQ_this ?_ | refine blockQ_other (by decide) ?_ | refine regW_nil ?_ | refine sw_draw mixed ?_ | refine retQ_ret ?_ | refine retQ_normal ?_))
 | (with_reducible refine regD_nil ?_
    refine ⟨by kernel_rfl, ?_⟩)
 | (revert h; (first | ((with_reducible refine idx_elim ?_); intro m hm1 hm2 hm3 h; (try (simp only [Int.reduceToNat] at hm3)); (try (revert hm3; (with_reducible apply same_elim); (focus (with_reducible assumption)); rintro rfl)); (try (simp only [List.length_set, List.length_cons, List.length_nil, List.length_replicate, Nat.reduceAdd, Int.cast_ofNat_Int, Nat.zero_add, List.length_append] at hm2))) | (with_reducible refine sidx_elim ?_; intro m hm1 hm3 h) | (with_reducible refine gd_elim ?_; intro hg h; try (have hg2 := hg.2; have hg := hg.1; (try (simp only [Nat.reduceLeDiff] at hg2)); (try (revert hg2; (with_reducible refine toNat_elim hg ?_); intro hg2 hg4)); try (have hg3 := hg2.2; have hg2 := hg2.1; (try (simp only [Nat.reduceLeDiff] at hg3))))) | (with_reducible refine condt_elim ?_ ?_; (focus (with_reducible assumption)); intro h) | (with_reducible refine condf_elim ?_ ?_; (focus (with_reducible assumption)); intro h)))
 | ((with_reducible first | refine pnR ?_ | refine pnE ?_ | refine pmR ?_ | refine pmE ?_)
    obtain rfl := h.get
    have h := hK
    clear hK
    (try (simp only [Sum.elim_inl, Sum.elim_inr] at h)))
 | ((with_reducible refine fi 9 ?_ ?_); (focus (with_reducible assumption))
    first
    | (with_reducible refine here_loop (c := (.seq (.region 21 _ _) _)) ?_
       revert h
       with_reducible refine bind_elimY ?_
       intro o4 h hK
       refine lpA (β := Int × (List GAsmIns) × (List (List GI2)) × ByteArray × (List GAsmIns) × Int × Int × (List GI2) × Int × Int) 40000000 (fun x => [(.s 3, some (.v (.mp 64 3 0 0))), (.s 5, some (.v (.d (.p (.string x.2.2.2.2.1))))), (.s 24, some (.v (.d (.row .bor 5 (Rw (GAsmIns.cells .bor) x.2.2.2.2.2.1))))), (.s 25, some (.v (V.int x.2.2.2.2.2.2.1))), (.s 26, some (.v (V.int x.2.2.2.2.2.2.2.1))), (.s 87, some (.v (.d (.row .bor 2 (Rw GI2.cells x.2.2.2.2.2.2.2.2.1))))), (.s 88, some (.v (V.int x.2.2.2.2.2.2.2.2.2.1))), (.s 89, some (.v (V.int x.2.2.2.2.2.2.2.2.2.2))), (.r 64, some (.o 3 [[V.int x.2.1, .d (.row .bor 5 (Rw (GAsmIns.cells .bor) x.2.2.1)), .d (.row .bor 1 (Rw (cL .bor 2 GI2.cells) x.2.2.2.1))]]))]) (fun x => Yes (impl_AsmText.l4 x.1 x.2.1 x.2.2.1 x.2.2.2.1 x.2.2.2.2.1 x.2.2.2.2.2.1 x.2.2.2.2.2.2.1 x.2.2.2.2.2.2.2.1 x.2.2.2.2.2.2.2.2.1 x.2.2.2.2.2.2.2.2.2.1 x.2.2.2.2.2.2.2.2.2.2) o4) (_, _, _, _, _, _, _, _, _, _, _) h ?_
       rintro ⟨_ | k, a1, a2, a3, a4, a5, a6, a7, a8, a9, a10⟩ h
       · simp only [impl_AsmText.l4] at h; exact h.none
       simp only [impl_AsmText.l4] at h
   )
    | (with_reducible refine here_loop (c := (.seq (.region 15 _ _) _)) ?_
       revert h
       with_reducible refine bind_elimY ?_
       intro o3 h hK
       refine lpA (β := Int × (List GAsmIns) × (List (List GI2)) × (List GMov) × Int × Int × (List GI2) × Int × ByteArray × (List GAsmIns) × Int × Int × (List GMov) × Int × Int) 30000000 (fun x => [(.s 3, some (.v (.mp 64 3 0 0))), (.s 5, some (.v (.d (.p (.string x.2.2.2.2.2.2.2.2.2.1))))), (.s 7, some (.v (.mp 10000256 5 0 0))), (.s 24, some (.v (.d (.row .bor 5 (Rw (GAsmIns.cells .bor) x.2.2.2.2.2.2.2.2.2.2.1))))), (.s 25, some (.v (V.int x.2.2.2.2.2.2.2.2.2.2.2.1))), (.s 26, some (.v (V.int x.2.2.2.2.2.2.2.2.2.2.2.2.1))), (.s 52, some (.v (.d (.row .bor 3 (Rw GMov.cells x.2.2.2.2.2.2.2.2.2.2.2.2.2.1))))), (.s 53, some (.v (V.int x.2.2.2.2.2.2.2.2.2.2.2.2.2.2.1))), (.s 54, some (.v (V.int x.2.2.2.2.2.2.2.2.2.2.2.2.2.2.2))), (.r 64, some (.o 3 [[V.int x.2.1, .d (.row .bor 5 (Rw (GAsmIns.cells .bor) x.2.2.1)), .d (.row .bor 1 (Rw (cL .bor 2 GI2.cells) x.2.2.2.1))]])), (.r 10000256, some (.o 5 [[.d (.row .bor 3 (Rw GMov.cells x.2.2.2.2.1)), V.int x.2.2.2.2.2.1, V.int x.2.2.2.2.2.2.1, .d (.row .bor 2 (Rw GI2.cells x.2.2.2.2.2.2.2.1)), V.int x.2.2.2.2.2.2.2.2.1]]))]) (fun x => Yes (impl_AsmText.l3 x.1 x.2.1 x.2.2.1 x.2.2.2.1 x.2.2.2.2.1 x.2.2.2.2.2.1 x.2.2.2.2.2.2.1 x.2.2.2.2.2.2.2.1 x.2.2.2.2.2.2.2.2.1 x.2.2.2.2.2.2.2.2.2.1 x.2.2.2.2.2.2.2.2.2.2.1 x.2.2.2.2.2.2.2.2.2.2.2.1 x.2.2.2.2.2.2.2.2.2.2.2.2.1 x.2.2.2.2.2.2.2.2.2.2.2.2.2.1 x.2.2.2.2.2.2.2.2.2.2.2.2.2.2.1 x.2.2.2.2.2.2.2.2.2.2.2.2.2.2.2) o3) (_, _, _, _, _, _, _, _, _, _, _, _, _, _, _, _) h ?_
       rintro ⟨_ | k, a1, a2, a3, a4, a5, a6, a7, a8, a9, a10, a11, a12, a13, a14, a15⟩ h
       · simp only [impl_AsmText.l3] at h; exact h.none
       simp only [impl_AsmText.l3] at h
   )
    | (with_reducible refine here_loop (c := (.seq (.region 9 _ _) _)) ?_
       revert h
       with_reducible refine bind_elimY ?_
       intro o2 h hK
       refine lpA (β := Int × (List GAsmIns) × (List (List GI2)) × (List GMov) × Int × Int × (List GI2) × Int × ByteArray × (List GAsmIns) × Int × Int × (List GI2) × Int × Int) 20000000 (fun x => [(.s 3, some (.v (.mp 64 3 0 0))), (.s 5, some (.v (.d (.p (.string x.2.2.2.2.2.2.2.2.2.1))))), (.s 7, some (.v (.mp 10000256 5 0 0))), (.s 24, some (.v (.d (.row .bor 5 (Rw (GAsmIns.cells .bor) x.2.2.2.2.2.2.2.2.2.2.1))))), (.s 25, some (.v (V.int x.2.2.2.2.2.2.2.2.2.2.2.1))), (.s 26, some (.v (V.int x.2.2.2.2.2.2.2.2.2.2.2.2.1))), (.s 37, some (.v (.d (.row .bor 2 (Rw GI2.cells x.2.2.2.2.2.2.2.2.2.2.2.2.2.1))))), (.s 38, some (.v (V.int x.2.2.2.2.2.2.2.2.2.2.2.2.2.2.1))), (.s 39, some (.v (V.int x.2.2.2.2.2.2.2.2.2.2.2.2.2.2.2))), (.r 64, some (.o 3 [[V.int x.2.1, .d (.row .bor 5 (Rw (GAsmIns.cells .bor) x.2.2.1)), .d (.row .bor 1 (Rw (cL .bor 2 GI2.cells) x.2.2.2.1))]])), (.r 10000256, some (.o 5 [[.d (.row .bor 3 (Rw GMov.cells x.2.2.2.2.1)), V.int x.2.2.2.2.2.1, V.int x.2.2.2.2.2.2.1, .d (.row .bor 2 (Rw GI2.cells x.2.2.2.2.2.2.2.1)), V.int x.2.2.2.2.2.2.2.2.1]]))]) (fun x => Yes (impl_AsmText.l2 x.1 x.2.1 x.2.2.1 x.2.2.2.1 x.2.2.2.2.1 x.2.2.2.2.2.1 x.2.2.2.2.2.2.1 x.2.2.2.2.2.2.2.1 x.2.2.2.2.2.2.2.2.1 x.2.2.2.2.2.2.2.2.2.1 x.2.2.2.2.2.2.2.2.2.2.1 x.2.2.2.2.2.2.2.2.2.2.2.1 x.2.2.2.2.2.2.2.2.2.2.2.2.1 x.2.2.2.2.2.2.2.2.2.2.2.2.2.1 x.2.2.2.2.2.2.2.2.2.2.2.2.2.2.1 x.2.2.2.2.2.2.2.2.2.2.2.2.2.2.2) o2) (_, _, _, _, _, _, _, _, _, _, _, _, _, _, _, _) h ?_
       rintro ⟨_ | k, a1, a2, a3, a4, a5, a6, a7, a8, a9, a10, a11, a12, a13, a14, a15⟩ h
       · simp only [impl_AsmText.l2] at h; exact h.none
       simp only [impl_AsmText.l2] at h
   )
    | (with_reducible refine here_loop (c := (.seq (.region 5 _ _) _)) ?_
       revert h
       with_reducible refine bind_elimY ?_
       intro o1 h hK
       refine lpA (β := Int × (List GAsmIns) × (List (List GI2)) × ByteArray × (List GAsmIns) × Int × Int) 10000000 (fun x => [(.s 3, some (.v (.mp 64 3 0 0))), (.s 5, some (.v (.d (.p (.string x.2.2.2.2.1))))), (.s 24, some (.v (.d (.row .bor 5 (Rw (GAsmIns.cells .bor) x.2.2.2.2.2.1))))), (.s 25, some (.v (V.int x.2.2.2.2.2.2.1))), (.s 26, some (.v (V.int x.2.2.2.2.2.2.2))), (.r 64, some (.o 3 [[V.int x.2.1, .d (.row .bor 5 (Rw (GAsmIns.cells .bor) x.2.2.1)), .d (.row .bor 1 (Rw (cL .bor 2 GI2.cells) x.2.2.2.1))]]))]) (fun x => Yes (impl_AsmText.l1 x.1 x.2.1 x.2.2.1 x.2.2.2.1 x.2.2.2.2.1 x.2.2.2.2.2.1 x.2.2.2.2.2.2.1 x.2.2.2.2.2.2.2) o1) (_, _, _, _, _, _, _, _) h ?_
       rintro ⟨_ | k, a1, a2, a3, a4, a5, a6, a7⟩ h
       · simp only [impl_AsmText.l1] at h; exact h.none
       simp only [impl_AsmText.l1] at h
   ))
 | ((with_reducible refine fi 6 ?_ ?_); (focus (with_reducible assumption))
    first
    | (with_reducible refine here_loop (c := (.seq (.seq (.region 10 _ _) _) _)) ?_
       revert h
       with_reducible refine bind_elimY ?_
       intro o2 h hK
       refine sw_gh ?_
       refine gh_resSlot 5 ?_
       simp only [bst, rxb, Nat.reduceAdd, Nat.reduceLeDiff, rxd, lkd, lkb, reduceCtorEq, Nat.reduceEqDiff, *]
       refine gh_sw ?_
       refine lpA (β := Int × (List GAsmIns) × (List (List GI2)) × (List GMov) × Int × Int × (List GI2) × Int × (List Int) × Int × Int) 20000000 (fun x => [(.s 3, some (.v (.mp 64 3 0 0))), (.s 5, some (.v (.d (.row .own 1 (Rw (cI .u8) x.2.2.2.2.2.2.2.2.2.1))))), (.s 6, some (.v (V.int x.2.2.2.2.2.2.2.2.2.2.1))), (.s 7, some (.v (.mp 10000704 5 0 0))), (.s 8, some (.v (V.int x.2.2.2.2.2.2.2.2.2.2.2))), (.r 64, some (.o 3 [[V.int x.2.1, .d (.row .bor 5 (Rw (GAsmIns.cells .bor) x.2.2.1)), .d (.row .bor 1 (Rw (cL .bor 2 GI2.cells) x.2.2.2.1))]])), (.r 10000704, some (.o 5 [[.d (.row .bor 3 (Rw GMov.cells x.2.2.2.2.1)), V.int x.2.2.2.2.2.1, V.int x.2.2.2.2.2.2.1, .d (.row .bor 2 (Rw GI2.cells x.2.2.2.2.2.2.2.1)), V.int x.2.2.2.2.2.2.2.2.1]]))]) (fun x => Yes (spec_AsmText.l2 x.1 x.2.1 x.2.2.1 x.2.2.2.1 x.2.2.2.2.1 x.2.2.2.2.2.1 x.2.2.2.2.2.2.1 x.2.2.2.2.2.2.2.1 x.2.2.2.2.2.2.2.2.1 x.2.2.2.2.2.2.2.2.2.1 x.2.2.2.2.2.2.2.2.2.2.1 x.2.2.2.2.2.2.2.2.2.2.2) o2) (_, _, _, _, _, _, _, _, _, _, _, _) h ?_
       rintro ⟨_ | k, a1, a2, a3, a4, a5, a6, a7, a8, a9, a10, a11⟩ h
       · simp only [spec_AsmText.l2] at h; exact h.none
       simp only [spec_AsmText.l2] at h
       refine sw_gh ?_
       refine gh_nameSlot 5 ?_
       simp only [rxb, Nat.reduceAdd, Nat.reduceLeDiff, rxd, lkd, lkb, reduceCtorEq, Nat.reduceEqDiff, Nat.reduceAdd]
       refine gh_sw ?_
   )
    | (with_reducible refine here_next (N0 := 20000000) ?_
       refine gh_resSlot 5 ?_
       simp only [bst, rxb, Nat.reduceAdd, Nat.reduceLeDiff, rxd, lkd, lkb, reduceCtorEq, Nat.reduceEqDiff, *]
       refine nxA (_, _, _, _, _, _, _, _, _, _, _, _) h)
    | (with_reducible refine here_loop (c := (.seq (.seq (.region 5 _ _) _) _)) ?_
       revert h
       with_reducible refine bind_elimY ?_
       intro o1 h hK
       refine sw_gh ?_
       refine gh_resSlot 5 ?_
       simp only [bst, rxb, Nat.reduceAdd, Nat.reduceLeDiff, rxd, lkd, lkb, reduceCtorEq, Nat.reduceEqDiff, *]
       refine gh_sw ?_
       refine lpA (β := Int × (List GAsmIns) × (List (List GI2)) × (List Int) × Int) 10000000 (fun x => [(.s 3, some (.v (.mp 64 3 0 0))), (.s 5, some (.v (.d (.row .own 1 (Rw (cI .u8) x.2.2.2.2.1))))), (.s 6, some (.v (V.int x.2.2.2.2.2))), (.r 64, some (.o 3 [[V.int x.2.1, .d (.row .bor 5 (Rw (GAsmIns.cells .bor) x.2.2.1)), .d (.row .bor 1 (Rw (cL .bor 2 GI2.cells) x.2.2.2.1))]]))]) (fun x => Yes (spec_AsmText.l1 x.1 x.2.1 x.2.2.1 x.2.2.2.1 x.2.2.2.2.1 x.2.2.2.2.2) o1) (_, _, _, _, _, _) h ?_
       rintro ⟨_ | k, a1, a2, a3, a4, a5⟩ h
       · simp only [spec_AsmText.l1] at h; exact h.none
       simp only [spec_AsmText.l1] at h
       refine sw_gh ?_
       refine gh_nameSlot 5 ?_
       simp only [rxb, Nat.reduceAdd, Nat.reduceLeDiff, rxd, lkd, lkb, reduceCtorEq, Nat.reduceEqDiff, Nat.reduceAdd]
       refine gh_sw ?_
   )
    | (with_reducible refine here_next (N0 := 10000000) ?_
       refine gh_resSlot 5 ?_
       simp only [bst, rxb, Nat.reduceAdd, Nat.reduceLeDiff, rxd, lkd, lkb, reduceCtorEq, Nat.reduceEqDiff, *]
       refine nxA (_, _, _, _, _, _) h))
 | (with_reducible refine here_next ?_
    first | refine nxA (_, _, _, _, _, _, _, _) h | refine nxA (_, _, _, _, _, _, _, _, _, _, _) h | refine nxA (_, _, _, _, _, _, _, _, _, _, _, _, _, _, _, _) h)
 | with_reducible refine sw_seq ?_
 | with_reducible refine seqQ_ret ?_
 | with_reducible refine seqQ_exit ?_
 | ((with_reducible refine wp_ite ?_ ?_)
    all_goals (intro hc; (try (simp only [Bool.not_eq_true, Bool.not_eq_false] at hc)); simp only [hc]))
 | (with_reducible refine rskip (hs := ?_) (h2 := ?_)
    · simp only [lkd, lkb, reduceCtorEq, Nat.reduceEqDiff]; done)
 | (with_reducible refine ryes (hs := ?_) (h := ?_)
    · simp only [lkd, lkb, reduceCtorEq, Nat.reduceEqDiff]; done)
 | (with_reducible refine rno (hs := ?_) (h := ?_)
    · simp only [lkd, lkb, reduceCtorEq, Nat.reduceEqDiff, Bool.not_true, Bool.not_false]; done)
 | (with_reducible apply regW_guardN
    · simp only [dstOk, Nat.reduceLT]
    · rfl
    · simp only [lkd, lkb, reduceCtorEq, Nat.reduceEqDiff]; rfl
    all_goals (intro hc; (try (simp only [Bool.not_true, Bool.not_false] at hc))))
 | (with_reducible apply sw_cond
    · simp only [lkd, lkb, reduceCtorEq, Nat.reduceEqDiff]; rfl
    all_goals (intro hc; try (cases hc; done)))
 | ((first
     | ((with_reducible refine gh_ret ?_)
        revert h
        with_reducible refine some_elim ?_
        rintro rfl)
     | (with_reducible refine here_call ?_
        revert h
        with_reducible refine bind_elim ?_
        intro t ht h
        (first
          | ((first
              | ((with_reducible refine here_call (f := 24) ?_); refine call_dataE (c_impl_AsmRight ht) ?_ rfl ?_)
              | ((with_reducible refine here_call (f := 25) ?_); refine call_dataE (c_impl_digits ht) ?_ rfl ?_)
              | ((with_reducible refine here_call (f := 26) ?_); refine call_dataE (c_impl_valText ht) ?_ rfl ?_)
              | ((with_reducible refine here_call (f := 27) ?_); refine call_dataE (c_impl_toText ht) ?_ rfl ?_)
              | ((with_reducible refine here_call (f := 28) ?_); refine call_dataE (c_impl_asmName ht) ?_ rfl ?_)
              | ((with_reducible refine here_call (f := 15) ?_); refine call_dataE (c_spec_AsmRight ht) ?_ rfl ?_)
              | ((with_reducible refine here_call (f := 16) ?_); refine call_dataE (c_spec_l01Dec ht) ?_ rfl ?_)
              | ((with_reducible refine here_call (f := 17) ?_); refine call_dataE (c_spec_l19Vals ht) ?_ rfl ?_)
              | ((with_reducible refine here_call (f := 18) ?_); refine call_dataE (c_spec_l19Loc ht) ?_ rfl ?_)
              | ((with_reducible refine here_call (f := 19) ?_); refine call_dataE (c_spec_ValText ht) ?_ rfl ?_)
              | ((with_reducible refine here_call (f := 20) ?_); refine call_dataE (c_spec_l19Name ht) ?_ rfl ?_))
             · first | rfl | (simp; done))))
     | (with_reducible (first | refine ropD (h := ?_) | refine ropW (h := ?_))
        intro k hk)
     | skip)
    simp only [bn, lkb, evb, evd, Value.oneCell', setSeg, reduceCtorEq, Nat.reduceAdd, Nat.reduceMul, Nat.reduceSub, Nat.reduceLT, Nat.reduceLeDiff, Nat.reduceEqDiff, Int.reduceNeg, Int.reduceToNat, ty2, ty3, ty4, ty5, ty9, ty32, ty34, ty36, ty37, ty39, ty48, ty50, ty51, ty53, ty56, ty58, ty77, ty79, ty105, GAsm.cells, GAsmIns.cells, GFunc.cells, GI2.cells, GMov.cells, GProgram.cells, cI, cB, cS, cL, GI2_e, GFunc_e, GProgram_e, GMov_e, GAsmIns_e, GAsm_e, LGI2_e, bst, *]
    try (refine hk.use _ _ _ _ ?_; clear hk k))
 | fail)
  all_goals (try rfl)
  all_goals (try (simp; done))
  all_goals (try (simp_all; done))
def c_impl_AsmText := @And.left _ _ ge11
def c_spec_AsmText := (@And.right _ _ ge11)
end Go.Proofs.YtfdgjiifeijjfaaGreatDoor