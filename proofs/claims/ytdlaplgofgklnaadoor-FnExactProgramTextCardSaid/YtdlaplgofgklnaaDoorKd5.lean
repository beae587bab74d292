/- WHAT IS PROVED: an abstract walker over the model, what some functions of the program answer, and laws of these answers. Conditions: none. -/
import Derived.Test.YtdlaplgofgklnaaDoorKd4
namespace Go.Proofs.YtdlaplgofgklnaaDoor
open Go.Proofs Go.Proofs.YtdlaplgofgklnaaDoor.L
set_option maxHeartbeats 8000000
set_option linter.unusedSimpArgs false
set_option linter.unusedVariables false
set_option maxRecDepth 100000
set_option linter.defProp false
def strconv_FormatInt (p0 p1 : Int) : Option ByteArray :=
  gd (p1 = 10 ∧ -9223372036854775808 ≤ p0 ∧ p0 ≤ 9223372036854775807) (some ⟨(Lib.itoa p0).toArray⟩)
theorem c_strconv_FormatInt {p0 p1 : Int} {r : ByteArray} (h : strconv_FormatInt p0 p1 = some r) : Con Tryd.prog 41 [V.int p0, V.int p1] [] (.d (.p (.string r))) [] := by
  obtain ⟨⟨h1, h2, h3⟩, h4⟩ := gd_some h
  simp only [Option.some.injEq] at h4
  subst h4 h1
  exact con_tab (g := 0) (by kernel_rfl) (List.mem_singleton.2 rfl) Tryd.call41 fun w hw => Tryd.strconv_FormatInt_10 p0 h2 h3 w hw
set_option linter.defProp false
def impl_hasA (p0 : Int) : Option (Bool) :=
  cond ((p0 == 1)) (some true) (cond ((p0 == 2)) (some true) (cond ((p0 == 3)) (some true) (cond ((p0 == 30)) (some true) (cond ((p0 == 31)) (some true) (cond ((p0 == 32)) (some true) (some false))))))
def impl_hasFunc (p0 : GProgram) (p1 : Int) : Option (Bool) :=
  cond ((decide (p1 ≥ 0))) (some ((decide (p1 < ((p0.funcs.length : Int)))))) (some false)
def impl_in (p0 : Int) (p1 : Int) (p2 : Int) : Option (Bool) :=
  cond ((decide (p0 ≥ p1))) (some ((decide (p0 ≤ p2)))) (some false)
def impl_next (p0 : GI2) (p1 : Int) : Option ((List Int)) :=
  cond ((p0.a == 33)) (some []) (cond ((p0.a == 30)) (some ([p0.b])) (cond ((p0.a == 31)) (some ([(IntKind.i64.wrap (p1 + 1)), p0.b])) (some ([(IntKind.i64.wrap (p1 + 1))]))))
def impl_opNames : Option ((List ByteArray)) :=
  some ([(⟨#[]⟩ : ByteArray), (⟨#[112, 117, 115, 104]⟩ : ByteArray), (⟨#[108, 111, 97, 100]⟩ : ByteArray), (⟨#[115, 116, 111, 114, 101]⟩ : ByteArray), (⟨#[100, 117, 112]⟩ : ByteArray), (⟨#[112, 111, 112]⟩ : ByteArray), (⟨#[]⟩ : ByteArray), (⟨#[]⟩ : ByteArray), (⟨#[]⟩ : ByteArray), (⟨#[]⟩ : ByteArray), (⟨#[97, 100, 100]⟩ : ByteArray), (⟨#[115, 117, 98]⟩ : ByteArray), (⟨#[109, 117, 108]⟩ : ByteArray), (⟨#[100, 105, 118]⟩ : ByteArray), (⟨#[114, 101, 109]⟩ : ByteArray), (⟨#[97, 110, 100]⟩ : ByteArray), (⟨#[111, 114]⟩ : ByteArray), (⟨#[120, 111, 114]⟩ : ByteArray), (⟨#[115, 104, 108]⟩ : ByteArray), (⟨#[115, 104, 114]⟩ : ByteArray), (⟨#[117, 115, 104, 114]⟩ : ByteArray), (⟨#[108, 101, 115, 115]⟩ : ByteArray), (⟨#[97, 116, 109, 111, 115, 116]⟩ : ByteArray), (⟨#[115, 97, 109, 101]⟩ : ByteArray), (⟨#[110, 101, 103]⟩ : ByteArray), (⟨#[110, 111, 116]⟩ : ByteArray), (⟨#[98, 121, 116, 101]⟩ : ByteArray), (⟨#[115, 104, 111, 114, 116]⟩ : ByteArray), (⟨#[105, 110, 116]⟩ : ByteArray), (⟨#[119, 111, 114, 100]⟩ : ByteArray), (⟨#[106, 117, 109, 112]⟩ : ByteArray), (⟨#[106, 122]⟩ : ByteArray), (⟨#[99, 97, 108, 108]⟩ : ByteArray), (⟨#[114, 101, 116]⟩ : ByteArray), (⟨#[110, 101, 119]⟩ : ByteArray), (⟨#[103, 101, 116]⟩ : ByteArray), (⟨#[115, 101, 116]⟩ : ByteArray), (⟨#[108, 101, 110]⟩ : ByteArray), (⟨#[111, 117, 116]⟩ : ByteArray)])
def spec_OpName.a1 (k : Nat) (a1 : (List ByteArray)) (a2 : (List ByteArray)) (a3 : Int) : Option ((ByteArray) ⊕ ((List ByteArray) × Int)) :=
  cond ((decide (a3 ≥ 1))) (cond ((decide (a3 ≤ 5))) ((idx a1 ((IntKind.i64.wrap (a3 - 1)))).bind fun m1 => some (.inl (m1))) (some (.inr (a2, a3)))) (some (.inr (a2, a3)))
def spec_OpName (k : Nat) (p0 : Int) : Option (ByteArray) :=
  (spec_OpName.a1 k ([(⟨#[112, 117, 115, 104]⟩ : ByteArray), (⟨#[108, 111, 97, 100]⟩ : ByteArray), (⟨#[115, 116, 111, 114, 101]⟩ : ByteArray), (⟨#[100, 117, 112]⟩ : ByteArray), (⟨#[112, 111, 112]⟩ : ByteArray)]) ([(⟨#[97, 100, 100]⟩ : ByteArray), (⟨#[115, 117, 98]⟩ : ByteArray), (⟨#[109, 117, 108]⟩ : ByteArray), (⟨#[100, 105, 118]⟩ : ByteArray), (⟨#[114, 101, 109]⟩ : ByteArray), (⟨#[97, 110, 100]⟩ : ByteArray), (⟨#[111, 114]⟩ : ByteArray), (⟨#[120, 111, 114]⟩ : ByteArray), (⟨#[115, 104, 108]⟩ : ByteArray), (⟨#[115, 104, 114]⟩ : ByteArray), (⟨#[117, 115, 104, 114]⟩ : ByteArray), (⟨#[108, 101, 115, 115]⟩ : ByteArray), (⟨#[97, 116, 109, 111, 115, 116]⟩ : ByteArray), (⟨#[115, 97, 109, 101]⟩ : ByteArray), (⟨#[110, 101, 103]⟩ : ByteArray), (⟨#[110, 111, 116]⟩ : ByteArray), (⟨#[98, 121, 116, 101]⟩ : ByteArray), (⟨#[115, 104, 111, 114, 116]⟩ : ByteArray), (⟨#[105, 110, 116]⟩ : ByteArray), (⟨#[119, 111, 114, 100]⟩ : ByteArray), (⟨#[106, 117, 109, 112]⟩ : ByteArray), (⟨#[106, 122]⟩ : ByteArray), (⟨#[99, 97, 108, 108]⟩ : ByteArray), (⟨#[114, 101, 116]⟩ : ByteArray), (⟨#[110, 101, 119]⟩ : ByteArray), (⟨#[103, 101, 116]⟩ : ByteArray), (⟨#[115, 101, 116]⟩ : ByteArray), (⟨#[108, 101, 110]⟩ : ByteArray), (⟨#[111, 117, 116]⟩ : ByteArray)]) p0).bind fun o1 => Sum.elim (fun o1l => some o1l) (fun o1r => cond ((decide (o1r.2 ≥ 10))) (cond ((decide (o1r.2 ≤ 38))) ((idx o1r.1 ((IntKind.i64.wrap (o1r.2 - 10)))).bind fun m2 => some m2) (some ((⟨#[]⟩ : ByteArray)))) (some ((⟨#[]⟩ : ByteArray)))) o1
def spec_l01Dec.a2 (k : Nat) (a1 : Int) (a2 : Bool) (a3 : ByteArray) (a4 : Int) : Option (Int × Bool × ByteArray × Int) :=
  cond ((decide (a4 < 0))) (some (a1, a2, a3, (IntKind.i64.wrap (0 - a4)))) (some (a1, a2, a3, a4))
def spec_l01Dec.l1 : Nat → Int → Bool → ByteArray → Option (Bool × ByteArray)
  | 0, _, _, _ => none
  | k + 1, a1, a2, a3 => cond ((a1 != 0)) ((spec_l01Dec.a2 k a1 a2 a3 ((a1.tmod 10))).bind fun o2 => gd (((strL ([(IntKind.u8.wrap ((IntKind.i64.wrap (48 + o2.2.2.2))))]))).size + o2.2.2.1.size ≤ 9223372036854775807) (spec_l01Dec.l1 k ((iquo .i64 o2.1 10)) o2.2.1 ((((strL ([(IntKind.u8.wrap ((IntKind.i64.wrap (48 + o2.2.2.2))))]))) ++ o2.2.2.1)))) (some (a2, a3))
def spec_l01Dec (k : Nat) (p0 : Int) : Option (ByteArray) :=
  cond ((p0 == 0)) (some ((⟨#[48]⟩ : ByteArray))) ((spec_l01Dec.l1 k p0 ((decide (p0 < 0))) ((⟨#[]⟩ : ByteArray))).bind fun o1 => cond o1.1 (gd (((⟨#[45]⟩ : ByteArray)).size + o1.2.size ≤ 9223372036854775807) (some ((((⟨#[45]⟩ : ByteArray)) ++ o1.2)))) (some o1.2))
theorem g1 : (∀ {p0 : Int} {r : Bool}, impl_hasA p0 = some r → Con Tryd.prog 31 [V.int p0] [] (V.bool r) []) ∧
  (∀ {p0 : GProgram} {p1 : Int} {r : Bool}, impl_hasFunc p0 p1 = some r → Con Tryd.prog 55 [.agg [.d (.row .bor 3 (Rw (GFunc.cells .bor) p0.funcs))], V.int p1] [] (V.bool r) []) ∧
  (∀ {p0 : Int} {p1 : Int} {p2 : Int} {r : Bool}, impl_in p0 p1 p2 = some r → Con Tryd.prog 42 [V.int p0, V.int p1, V.int p2] [] (V.bool r) []) ∧
  (∀ {p0 : GI2} {p1 : Int} {r : (List Int)}, impl_next p0 p1 = some r → Con Tryd.prog 58 [.agg [V.int p0.a, V.int p0.b], V.int p1] [] (.d (.row .own 1 (Rw (cI .i64) r))) []) ∧
  (∀ {r : (List ByteArray)}, impl_opNames = some r → Con Tryd.prog 43 [] [] (.d (.row .own 1 (Rw cS r))) []) ∧
  (∀ {k : Nat} {p0 : Int} {r : ByteArray}, spec_OpName k p0 = some r → Con Tryd.prog 25 [V.int p0] [] (.d (.p (.string r))) []) ∧
  (∀ {k : Nat} {p0 : Int} {r : ByteArray}, spec_l01Dec k p0 = some r → Con Tryd.prog 16 [V.int p0] [] (.d (.p (.string r))) []) := by
  refine ⟨?_, ?_, ?_, ?_, ?_, ?_, ?_⟩
  all_goals intros
  all_goals rename_i h
  all_goals first
    | (with_reducible refine isf 31 ?_
       refine csw Tryd.func31 Tryd.call31 (by simp [Tryd.ntmps31]) (h := ?_)
       refine mkf 31 fun hF => ?_
       rw [Tryd.ntmps31, Tryd.results31]
       unfold impl_hasA at h)
    | (with_reducible refine isf 55 ?_
       refine csw Tryd.func55 Tryd.call55 (by simp [Tryd.ntmps55]) (h := ?_)
       refine mkf 55 fun hF => ?_
       rw [Tryd.ntmps55, Tryd.results55]
       unfold impl_hasFunc at h)
    | (with_reducible refine isf 42 ?_
       refine csw Tryd.func42 Tryd.call42 (by simp [Tryd.ntmps42]) (h := ?_)
       refine mkf 42 fun hF => ?_
       rw [Tryd.ntmps42, Tryd.results42]
       unfold impl_in at h)
    | (with_reducible refine isf 58 ?_
       refine csw Tryd.func58 Tryd.call58 (by simp [Tryd.ntmps58]) (h := ?_)
       refine mkf 58 fun hF => ?_
       rw [Tryd.ntmps58, Tryd.results58]
       unfold impl_next at h)
    | (with_reducible refine isf 43 ?_
       refine csw Tryd.func43 Tryd.call43 (by simp [Tryd.ntmps43]) (h := ?_)
       refine mkf 43 fun hF => ?_
       rw [Tryd.ntmps43, Tryd.results43]
       unfold impl_opNames at h)
    | (with_reducible refine isf 25 ?_
       refine csw Tryd.func25 Tryd.call25 (by simp [Tryd.ntmps25]) (h := ?_)
       refine mkf 25 fun hF => ?_
       rw [Tryd.ntmps25, Tryd.results25]
       unfold spec_OpName at h)
    | (with_reducible refine isf 16 ?_
       refine csw Tryd.func16 Tryd.call16 (by simp [Tryd.ntmps16]) (h := ?_)
       refine mkf 16 fun hF => ?_
       rw [Tryd.ntmps16, Tryd.results16]
       unfold spec_l01Dec at h)
  all_goals (replace h := Yes.mk h; simp only [entryS, entryO, Nat.reduceAdd, List.length_nil, List.length_cons])
  repeat' (first
 | (with_reducible (first | refine sw_reg ?_ | refine sw_ret ?_ | refine sw_skip ?_ | refine sw_block ?_ | refine sw_exit ?_ | refine seqQ_normal ?_ | refine blockQ_normal ?_ | refine blockQ_ret ?_ | refine blockQ_this ?_ | refine blockQ_other (by decide) ?_ | refine regW_nil ?_ | refine sw_draw mixed ?_ | refine retQ_ret ?_ | refine retQ_normal ?_))
 | (with_reducible refine regD_nil ?_
    refine ⟨by kernel_rfl, ?_⟩)
 | (revert h; (first | ((with_reducible refine idx_elim ?_); intro m hm1 hm2 hm3 h; (try (simp only [Int.reduceToNat] at hm3)); (try (revert hm3; (with_reducible apply same_elim); (focus (with_reducible assumption)); rintro rfl)); (try (simp only [List.length_set, List.length_cons, List.length_nil, List.length_replicate, Nat.reduceAdd, Int.cast_ofNat_Int, Nat.zero_add, List.length_append] at hm2))) | (with_reducible refine sidx_elim ?_; intro m hm1 hm3 h) | (with_reducible refine gd_elim ?_; intro hg h; try (have hg2 := hg.2; have hg := hg.1; (try (simp only [Nat.reduceLeDiff] at hg2)); (try (revert hg2; (with_reducible refine toNat_elim hg ?_); intro hg2 hg4)); try (have hg3 := hg2.2; have hg2 := hg2.1; (try (simp only [Nat.reduceLeDiff] at hg3))))) | (with_reducible refine condt_elim ?_ ?_; (focus (with_reducible assumption)); intro h) | (with_reducible refine condf_elim ?_ ?_; (focus (with_reducible assumption)); intro h)))
 | ((with_reducible first | refine pnR ?_ | refine pnE ?_ | refine pmR ?_ | refine pmE ?_)
    obtain rfl := h.get
    have h := hK
    clear hK
    (try (simp only [Sum.elim_inl, Sum.elim_inr] at h)))
 | ((with_reducible refine fi 25 ?_ ?_); (focus (with_reducible assumption))
    first
    | (with_reducible refine here_join (a := (.seq (.region 3 _ _) _)) (b := (.seq (.seq (.region 5 _ _) _) _)) ?_
       revert h
       with_reducible refine bind_elimY ?_
       intro o1 h hK
       unfold spec_OpName.a1 at h
       refine sw_join (ι := (List ByteArray) × Int) 10000000 (fun x => [(.s 0, some (.v (V.int x.2))), (.s 4, some (.v (.sl 256 1 0 x.1.length))), (.r 256, some (.o 1 (dd (Rw cS x.1))))]) (fun x => Yes (some (.inr x)) o1) ?_ ?_
       rotate_left
       rintro ⟨b1, b2⟩ h
       obtain rfl := h.get
       have h := hK
       clear hK
       (try (simp only [Sum.elim_inl, Sum.elim_inr] at h))
       refine sw_gh ?_
       refine gh_sw ?_))
 | ((with_reducible refine fi 16 ?_ ?_); (focus (with_reducible assumption))
    first
    | (with_reducible refine here_join (a := (.seq (.region 7 _ _) _)) (b := (.seq (.region 9 _ _) _)) ?_
       revert h
       with_reducible refine bind_elimY ?_
       intro o2 h hK
       unfold spec_l01Dec.a2 at h
       refine sw_join (ι := Int × Bool × ByteArray × Int) 20000000 (fun x => [(.s 0, some (.v (V.int x.1))), (.s 3, some (.v (V.bool x.2.1))), (.s 4, some (.v (.d (.p (.string x.2.2.1))))), (.s 5, some (.v (V.int x.2.2.2)))]) (fun x => Yes (some (x)) o2) ?_ ?_
       rotate_left
       rintro ⟨b1, b2, b3, b4⟩ h
       obtain rfl := h.get
       have h := hK
       clear hK
       (try (simp only [Sum.elim_inl, Sum.elim_inr] at h))
       refine sw_gh ?_
       refine gh_sw ?_)
    | (with_reducible refine here_loop (c := (.seq (.seq (.region 5 _ _) _) _)) ?_
       revert h
       with_reducible refine bind_elimY ?_
       intro o1 h hK
       refine lpA (β := Int × Bool × ByteArray) 10000000 (fun x => [(.s 0, some (.v (V.int x.2.1))), (.s 3, some (.v (V.bool x.2.2.1))), (.s 4, some (.v (.d (.p (.string x.2.2.2)))))]) (fun x => Yes (spec_l01Dec.l1 x.1 x.2.1 x.2.2.1 x.2.2.2) o1) (_, _, _, _) h ?_
       rintro ⟨_ | k, a1, a2, a3⟩ h
       · simp only [spec_l01Dec.l1] at h; exact h.none
       simp only [spec_l01Dec.l1] at h
   ))
 | (with_reducible refine here_next ?_
    first | refine nxA (_, _, _, _) h)
 | (with_reducible refine here_meet ?_
    first | refine mtA (_, _) h | refine mtA (_, _, _, _) h)
 | with_reducible refine sw_seq ?_
 | with_reducible refine seqQ_ret ?_
 | with_reducible refine seqQ_exit ?_
 | ((with_reducible refine fi 58 ?_ ?_); (focus (with_reducible assumption))
    first
    | (with_reducible refine gh_nilRow 4 .own 1 ?_ ?_
       · simp only [putSt, lk, lkb, reduceCtorEq, Nat.reduceEqDiff]; done
       skip))
 | ((with_reducible refine fi 43 ?_ ?_); (focus (with_reducible assumption))
    first
    | (with_reducible refine gh_nilRow 0 .own 1 ?_ ?_
       · simp only [putSt, lk, lkb, reduceCtorEq, Nat.reduceEqDiff]; done
       skip))
 | ((with_reducible refine wp_ite ?_ ?_)
    all_goals (intro hc; (try (simp only [Bool.not_eq_true, Bool.not_eq_false] at hc)); simp only [hc]))
 | (with_reducible refine rskip (hs := ?_) (h2 := ?_)
    · simp only [putSt, lk, lkb, reduceCtorEq, Nat.reduceEqDiff]; done)
 | (with_reducible refine ryes (hs := ?_) (h := ?_)
    · simp only [putSt, lk, lkb, reduceCtorEq, Nat.reduceEqDiff]; done)
 | (with_reducible refine rno (hs := ?_) (h := ?_)
    · simp only [putSt, lk, lkb, reduceCtorEq, Nat.reduceEqDiff, Bool.not_true, Bool.not_false]; done)
 | (with_reducible apply regW_guardN
    · simp only [dstOk, Nat.reduceLT]
    · rfl
    · simp only [putSt, lk, lkb, reduceCtorEq, Nat.reduceEqDiff]; rfl
    all_goals (intro hc; (try (simp only [Bool.not_true, Bool.not_false] at hc))))
 | (with_reducible apply sw_cond
    · simp only [putSt, lk, lkb, reduceCtorEq, Nat.reduceEqDiff]; rfl
    all_goals (intro hc; try (cases hc; done)))
 | ((first
     | ((with_reducible refine gh_ret ?_)
        revert h
        with_reducible refine some_elim ?_
        rintro rfl)
     | (with_reducible (first | refine ropD (h := ?_) | refine ropW (h := ?_))
        intro k hk)
     | skip)
    simp only [RetW, bn, lkb, evb, opC, opP, fetchN, fetchP, fetchAll, fetchO, Prog.bind, Prog.wp, Prog.wp_bind, lk, nameP, nameAll, Value.oneCell', putSt, stepP, putP, reduceCtorEq, V.lin, V.linL, D.lin, isNil, binP, unP, BinOp.isShift, Prog.ofO, Nat.reduceAdd, Nat.reduceMul, Nat.reduceSub, Nat.reduceLT, Nat.reduceLeDiff, Nat.reduceEqDiff, ite_true, ite_false, fieldAddrP, fieldP, indexAddrP, loadP, storeP, boxP, allocP, cellsP, asVal, setSeg, outP, outT, cntT, TyK.field, TyK.agg, zeroRow, V.ren, V.renL, forall_eq_or_imp, forall_const, minmaxP, lenP, lenOf, lenStr, V.asInt, decide_true, decide_false, sliceP, boundP, makeSliceP, convertP, appendP, rowsOfP, ontoP, sizeFits, V.rowSize, TyK.src, resV, resV.go, resV.gol, retP, retOne, retAll, resTo, objsAre, Option.map_eq_map, Function.const_apply, Int.reduceNeg, Int.reduceToNat, ty2, ty4, ty5, ty9, ty28, ty36, ty38, ty52, ty54, ty56, ty66, ty74, GFunc.cells, GI2.cells, GProgram.cells, cI, cB, cS, cL, GI2_e, GFunc_e, GProgram_e, LcIi64_e, buildP, buildSliceP, putParts, structPlaces, chunks, List.replicate, List.flatten_nil, List.flatten_cons, Option.bind_some, bb, shiftBin_shl, shiftBin_shr, intBin_quo, intBin_rem, Int.reduceLT, Int.reduceEq, not_false_eq_true, Int.not_lt, nilEqP, ne_eq, not_false_eq_true, not_true_eq_false, bst, *]
    try (refine hk.use _ _ _ _ ?_; clear hk k))
 | fail)
  all_goals (try rfl)
  all_goals (try (simp; done))
  all_goals (try (simp_all; done))
def c_impl_hasA := @And.left _ _ g1
def c_impl_hasFunc := @And.left _ _ (@And.right _ _ g1)
def c_impl_in := @And.left _ _ (@And.right _ _ (@And.right _ _ g1))
def c_impl_next := @And.left _ _ (@And.right _ _ (@And.right _ _ (@And.right _ _ g1)))
def c_impl_opNames := @And.left _ _ (@And.right _ _ (@And.right _ _ (@And.right _ _ (@And.right _ _ g1))))
def c_spec_OpName := @And.left _ _ (@And.right _ _ (@And.right _ _ (@And.right _ _ (@And.right _ _ (@And.right _ _ g1)))))
def c_spec_l01Dec := (@And.right _ _ (@And.right _ _ (@And.right _ _ (@And.right _ _ (@And.right _ _ (@And.right _ _ g1))))))
set_option linter.defProp false
def spec_l01Source.a2 (k : Nat) (a1 : Gl01Src) (a2 : (List Int)) (a3 : Int) : Option ((Gl01Src × (List Int) × Int) ⊕ (Gl01Src × (List Int))) :=
  cond ((decide (a3 < ((a2.length : Int))))) (cond ((decide (a3 < 64))) (some (.inl (a1, a2, a3))) (some (.inr (a1, a2)))) (some (.inr (a1, a2)))
def spec_l01Source.l1 : Nat → Gl01Src → (List Int) → Int → Option (Gl01Src × (List Int))
  | 0, _, _, _ => none
  | k + 1, a1, a2, a3 => (spec_l01Source.a2 k a1 a2 a3).bind fun o2 => Sum.elim (fun o2l => (idx o2l.2.1 o2l.2.2).bind fun m1 => spec_l01Source.l1 k ((⟨o2l.1.b, o2l.1.at0, (IntKind.u64.wrap (((ixor .u64 o2l.1.mix ((IntKind.u64.wrap m1)))) * 1099511628211)), o2l.1.size⟩ : Gl01Src)) o2l.2.1 ((IntKind.i64.wrap (o2l.2.2 + 1)))) (fun o2r => some (o2r.1, o2r.2)) o2
def spec_l01Source (k : Nat) (p0 : (List Int)) : Option (Gl01Src) :=
  (spec_l01Source.l1 k ((⟨p0, 0, 88172645463325252, 0⟩ : Gl01Src)) p0 0).bind fun o1 => cond ((decide (((iquo .i64 ((o1.2.length : Int)) 20)) > 12))) (some ((⟨o1.1.b, o1.1.at0, o1.1.mix, 12⟩ : Gl01Src))) (some ((⟨o1.1.b, o1.1.at0, o1.1.mix, (iquo .i64 ((o1.2.length : Int)) 20)⟩ : Gl01Src)))
def spec_l01Src_n.a1 (k : Nat) (a1 : Gl01Src) (a2 : Int) (a3 : Int) : Option (Gl01Src × Int × Int) :=
  cond ((decide (a1.at0 < ((a1.b.length : Int))))) ((idx a1.b a1.at0).bind fun m1 => some ((⟨a1.b, (IntKind.i64.wrap (a1.at0 + 1)), a1.mix, a1.size⟩ : Gl01Src), a2, (IntKind.u64.wrap m1))) (some (a1, a2, a3))
def spec_l01Src_n (k : Nat) (p0 : Gl01Src) (p1 : Int) : Option (Int × Gl01Src) :=
  cond ((decide (p1 ≤ 1))) (some (0, p0)) ((spec_l01Src_n.a1 k p0 p1 0).bind fun o1 => gd (((IntKind.u64.wrap o1.2.1)) ≠ 0) (some ((IntKind.i64.wrap ((((IntKind.u64.wrap (o1.2.2 + ((ishr .u64 ((ixor .u64 ((ixor .u64 ((ixor .u64 o1.1.mix ((ishl .u64 o1.1.mix 13)))) ((ishr .u64 ((ixor .u64 o1.1.mix ((ishl .u64 o1.1.mix 13)))) 7)))) ((ishl .u64 ((ixor .u64 ((ixor .u64 o1.1.mix ((ishl .u64 o1.1.mix 13)))) ((ishr .u64 ((ixor .u64 o1.1.mix ((ishl .u64 o1.1.mix 13)))) 7)))) 17)))) 20))))).tmod ((IntKind.u64.wrap o1.2.1))))), (⟨o1.1.b, o1.1.at0, (ixor .u64 ((ixor .u64 ((ixor .u64 o1.1.mix ((ishl .u64 o1.1.mix 13)))) ((ishr .u64 ((ixor .u64 o1.1.mix ((ishl .u64 o1.1.mix 13)))) 7)))) ((ishl .u64 ((ixor .u64 ((ixor .u64 o1.1.mix ((ishl .u64 o1.1.mix 13)))) ((ishr .u64 ((ixor .u64 o1.1.mix ((ishl .u64 o1.1.mix 13)))) 7)))) 17))), o1.1.size⟩ : Gl01Src))))
def spec_l03Binary (p0 : Int) : Option (Bool) :=
  cond ((decide (p0 ≥ 10))) (some ((decide (p0 ≤ 23)))) (some false)
def spec_l03Unary (p0 : Int) : Option (Bool) :=
  cond ((decide (p0 ≥ 24))) (some ((decide (p0 ≤ 29)))) (some false)
def spec_l04Least.l1 : Nat → (List Bool) → Int → Option ((Int) ⊕ (Unit))
  | 0, _, _ => none
  | k + 1, a1, a2 => cond ((decide (a2 < ((a1.length : Int))))) ((idx a1 a2).bind fun m1 => cond m1 (some (.inl (a2))) (spec_l04Least.l1 k a1 ((IntKind.i64.wrap (a2 + 1))))) (some (.inr ()))
def spec_l04Least (k : Nat) (p0 : (List Bool)) : Option (Int) :=
  (spec_l04Least.l1 k p0 0).bind fun o1 => Sum.elim (fun o1l => some o1l) (fun o1r => some ((-1))) o1
def spec_l10Loc (p0 : Int) : Option (Bool) :=
  cond ((decide (p0 ≥ 0))) (some ((decide (p0 < 22)))) (some false)
def spec_l15Has (p0 : Int) : Option (Bool) :=
  cond ((decide (p0 ≥ 1))) (cond ((decide (p0 ≤ 3))) (some true) (cond ((decide (p0 ≥ 30))) (some ((decide (p0 ≤ 32)))) (some false))) (cond ((decide (p0 ≥ 30))) (some ((decide (p0 ≤ 32)))) (some false))
def laws_eqIns (p0 : GI2) (p1 : GI2) : Option (Bool) :=
  cond ((p0.a != p1.a)) (some false) (cond ((p0.b != p1.b)) (some false) (some true))
def laws_szInsS (p0 : (List GI2)) (p1 : Int) : Option (Int) :=
  cond ((decide (((IntKind.i64.wrap (p1 - ((p0.length : Int))))) < 0))) (some ((-1))) (some ((IntKind.i64.wrap (p1 - ((p0.length : Int))))))
def laws_toIns (p0 : GI2) : Option (GI2) :=
  some p0
def laws_toVal (p0 : GI2) : Option (GI2) :=
  some p0
theorem g2 : (∀ {k : Nat} {p0 : (List Int)} {r : Gl01Src}, spec_l01Source k p0 = some r → Con Tryd.prog 19 [.d (.row .bor 1 (Rw (cI .u8) p0))] [] (.d (.ptr .own [.row .bor 1 (Rw (cI .u8) r.b), .p (.int .i64 r.at0), .p (.int .u64 r.mix), .p (.int .i64 r.size)])) []) ∧
  (∀ {k : Nat} {p0 : Gl01Src} {p1 : Int} {r : Int × Gl01Src}, spec_l01Src_n k p0 p1 = some r → Con Tryd.prog 35 [.mp 0 4 0 0, V.int p1] [.o 4 [[.d (.row .bor 1 (Rw (cI .u8) p0.b)), V.int p0.at0, .d (.p (.int .u64 p0.mix)), V.int p0.size]]] (V.int r.1) [.o 4 [[.d (.row .bor 1 (Rw (cI .u8) r.2.b)), V.int r.2.at0, .d (.p (.int .u64 r.2.mix)), V.int r.2.size]]]) ∧
  (∀ {p0 : Int} {r : Bool}, spec_l03Binary p0 = some r → Con Tryd.prog 75 [V.int p0] [] (V.bool r) []) ∧
  (∀ {p0 : Int} {r : Bool}, spec_l03Unary p0 = some r → Con Tryd.prog 76 [V.int p0] [] (V.bool r) []) ∧
  (∀ {k : Nat} {p0 : (List Bool)} {r : Int}, spec_l04Least k p0 = some r → Con Tryd.prog 64 [.d (.row .bor 1 (Rw cB p0))] [] (V.int r) []) ∧
  (∀ {p0 : Int} {r : Bool}, spec_l10Loc p0 = some r → Con Tryd.prog 33 [V.int p0] [] (V.bool r) []) ∧
  (∀ {p0 : Int} {r : Bool}, spec_l15Has p0 = some r → Con Tryd.prog 26 [V.int p0] [] (V.bool r) []) ∧
  (∀ {p0 : GI2} {p1 : GI2} {r : Bool}, laws_eqIns p0 p1 = some r → Con Tryd.prog 63 [.agg [V.int p0.a, V.int p0.b], .agg [V.int p1.a, V.int p1.b]] [] (V.bool r) []) ∧
  (∀ {p0 : (List GI2)} {p1 : Int} {r : Int}, laws_szInsS p0 p1 = some r → Con Tryd.prog 45 [.d (.row .bor 2 (Rw GI2.cells p0)), V.int p1] [] (V.int r) []) ∧
  (∀ {p0 : GI2} {r : GI2}, laws_toIns p0 = some r → Con Tryd.prog 54 [.agg [V.int p0.a, V.int p0.b]] [] (.agg [V.int r.a, V.int r.b]) []) ∧
  (∀ {p0 : GI2} {r : GI2}, laws_toVal p0 = some r → Con Tryd.prog 7 [.agg [V.int p0.a, V.int p0.b]] [] (.agg [V.int r.a, V.int r.b]) []) := by
  refine ⟨?_, ?_, ?_, ?_, ?_, ?_, ?_, ?_, ?_, ?_, ?_⟩
  all_goals intros
  all_goals rename_i h
  all_goals first
    | (with_reducible refine isf 19 ?_
       refine csw Tryd.func19 Tryd.call19 (by simp [Tryd.ntmps19]) (h := ?_)
       refine mkf 19 fun hF => ?_
       rw [Tryd.ntmps19, Tryd.results19]
       unfold spec_l01Source at h)
    | (with_reducible refine isf 35 ?_
       refine csw Tryd.func35 Tryd.call35 (by simp [Tryd.ntmps35]) (h := ?_)
       refine mkf 35 fun hF => ?_
       rw [Tryd.ntmps35, Tryd.results35]
       unfold spec_l01Src_n at h)
    | (with_reducible refine isf 75 ?_
       refine csw Tryd.func75 Tryd.call75 (by simp [Tryd.ntmps75]) (h := ?_)
       refine mkf 75 fun hF => ?_
       rw [Tryd.ntmps75, Tryd.results75]
       unfold spec_l03Binary at h)
    | (with_reducible refine isf 76 ?_
       refine csw Tryd.func76 Tryd.call76 (by simp [Tryd.ntmps76]) (h := ?_)
       refine mkf 76 fun hF => ?_
       rw [Tryd.ntmps76, Tryd.results76]
       unfold spec_l03Unary at h)
    | (with_reducible refine isf 64 ?_
       refine csw Tryd.func64 Tryd.call64 (by simp [Tryd.ntmps64]) (h := ?_)
       refine mkf 64 fun hF => ?_
       rw [Tryd.ntmps64, Tryd.results64]
       unfold spec_l04Least at h)
    | (with_reducible refine isf 33 ?_
       refine csw Tryd.func33 Tryd.call33 (by simp [Tryd.ntmps33]) (h := ?_)
       refine mkf 33 fun hF => ?_
       rw [Tryd.ntmps33, Tryd.results33]
       unfold spec_l10Loc at h)
    | (with_reducible refine isf 26 ?_
       refine csw Tryd.func26 Tryd.call26 (by simp [Tryd.ntmps26]) (h := ?_)
       refine mkf 26 fun hF => ?_
       rw [Tryd.ntmps26, Tryd.results26]
       unfold spec_l15Has at h)
    | (with_reducible refine isf 63 ?_
       refine csw Tryd.func63 Tryd.call63 (by simp [Tryd.ntmps63]) (h := ?_)
       refine mkf 63 fun hF => ?_
       rw [Tryd.ntmps63, Tryd.results63]
       unfold laws_eqIns at h)
    | (with_reducible refine isf 45 ?_
       refine csw Tryd.func45 Tryd.call45 (by simp [Tryd.ntmps45]) (h := ?_)
       refine mkf 45 fun hF => ?_
       rw [Tryd.ntmps45, Tryd.results45]
       unfold laws_szInsS at h)
    | (with_reducible refine isf 54 ?_
       refine csw Tryd.func54 Tryd.call54 (by simp [Tryd.ntmps54]) (h := ?_)
       refine mkf 54 fun hF => ?_
       rw [Tryd.ntmps54, Tryd.results54]
       unfold laws_toIns at h)
    | (with_reducible refine isf 7 ?_
       refine csw Tryd.func7 Tryd.call7 (by simp [Tryd.ntmps7]) (h := ?_)
       refine mkf 7 fun hF => ?_
       rw [Tryd.ntmps7, Tryd.results7]
       unfold laws_toVal at h)
  all_goals (replace h := Yes.mk h; simp only [entryS, entryO, Nat.reduceAdd, List.length_nil, List.length_cons])
  repeat' (first
 | (with_reducible (first | refine sw_reg ?_ | refine sw_ret ?_ | refine sw_skip ?_ | refine sw_block ?_ | refine sw_exit ?_ | refine seqQ_normal ?_ | refine blockQ_normal ?_ | refine blockQ_ret ?_ | refine blockQ_this ?_ | refine blockQ_other (by decide) ?_ | refine regW_nil ?_ | refine sw_draw mixed ?_ | refine retQ_ret ?_ | refine retQ_normal ?_))
 | (with_reducible refine regD_nil ?_
    refine ⟨by kernel_rfl, ?_⟩)
 | (revert h; (first | ((with_reducible refine idx_elim ?_); intro m hm1 hm2 hm3 h; (try (simp only [Int.reduceToNat] at hm3)); (try (revert hm3; (with_reducible apply same_elim); (focus (with_reducible assumption)); rintro rfl)); (try (simp only [List.length_set, List.length_cons, List.length_nil, List.length_replicate, Nat.reduceAdd, Int.cast_ofNat_Int, Nat.zero_add, List.length_append] at hm2))) | (with_reducible refine sidx_elim ?_; intro m hm1 hm3 h) | (with_reducible refine gd_elim ?_; intro hg h; try (have hg2 := hg.2; have hg := hg.1; (try (simp only [Nat.reduceLeDiff] at hg2)); (try (revert hg2; (with_reducible refine toNat_elim hg ?_); intro hg2 hg4)); try (have hg3 := hg2.2; have hg2 := hg2.1; (try (simp only [Nat.reduceLeDiff] at hg3))))) | (with_reducible refine condt_elim ?_ ?_; (focus (with_reducible assumption)); intro h) | (with_reducible refine condf_elim ?_ ?_; (focus (with_reducible assumption)); intro h)))
 | ((with_reducible first | refine pnR ?_ | refine pnE ?_ | refine pmR ?_ | refine pmE ?_)
    obtain rfl := h.get
    have h := hK
    clear hK
    (try (simp only [Sum.elim_inl, Sum.elim_inr] at h)))
 | ((with_reducible refine fi 19 ?_ ?_); (focus (with_reducible assumption))
    first
    | (with_reducible refine here_join (a := (.seq (.region 3 _ _) _)) (b := (.seq (.block 1 _) _)) ?_
       revert h
       with_reducible refine bind_elimY ?_
       intro o2 h hK
       unfold spec_l01Source.a2 at h
       refine sw_join (ι := Gl01Src × (List Int) × Int) 20000000 (fun x => [(.s 0, some (.v (.d (.row .bor 1 (Rw (cI .u8) x.2.1))))), (.s 3, some (.v (.mp 192 4 0 0))), (.s 4, some (.v (V.int x.2.2))), (.r 192, some (.o 4 [[.d (.row .bor 1 (Rw (cI .u8) x.1.b)), V.int x.1.at0, .d (.p (.int .u64 x.1.mix)), V.int x.1.size]]))]) (fun x => Yes (some (.inl x)) o2) ?_ ?_
       rotate_left
       rintro ⟨b1, b2, b3⟩ h
       obtain rfl := h.get
       have h := hK
       clear hK
       (try (simp only [Sum.elim_inl, Sum.elim_inr] at h))
       refine sw_gh ?_
       refine gh_sw ?_)
    | (with_reducible refine here_loop (c := (.seq (.seq (.region 3 _ _) _) _)) ?_
       revert h
       with_reducible refine bind_elimY ?_
       intro o1 h hK
       refine lpA (β := Gl01Src × (List Int) × Int) 10000000 (fun x => [(.s 0, some (.v (.d (.row .bor 1 (Rw (cI .u8) x.2.2.1))))), (.s 3, some (.v (.mp 192 4 0 0))), (.s 4, some (.v (V.int x.2.2.2))), (.r 192, some (.o 4 [[.d (.row .bor 1 (Rw (cI .u8) x.2.1.b)), V.int x.2.1.at0, .d (.p (.int .u64 x.2.1.mix)), V.int x.2.1.size]]))]) (fun x => Yes (spec_l01Source.l1 x.1 x.2.1 x.2.2.1 x.2.2.2) o1) (_, _, _, _) h ?_
       rintro ⟨_ | k, a1, a2, a3⟩ h
       · simp only [spec_l01Source.l1] at h; exact h.none
       simp only [spec_l01Source.l1] at h
   ))
 | ((with_reducible refine fi 35 ?_ ?_); (focus (with_reducible assumption))
    first
    | (with_reducible refine here_join (a := (.seq (.region 4 _ _) _)) (b := (.seq (.region 7 _ _) _)) ?_
       revert h
       with_reducible refine bind_elimY ?_
       intro o1 h hK
       unfold spec_l01Src_n.a1 at h
       refine sw_join (ι := Gl01Src × Int × Int) 10000000 (fun x => [(.s 0, some (.v (.mp 0 4 0 0))), (.s 1, some (.v (V.int x.2.1))), (.s 5, some (.v (.d (.p (.int .u64 x.2.2))))), (.r 0, some (.o 4 [[.d (.row .bor 1 (Rw (cI .u8) x.1.b)), V.int x.1.at0, .d (.p (.int .u64 x.1.mix)), V.int x.1.size]]))]) (fun x => Yes (some (x)) o1) ?_ ?_
       rotate_left
       rintro ⟨b1, b2, b3⟩ h
       obtain rfl := h.get
       have h := hK
       clear hK
       (try (simp only [Sum.elim_inl, Sum.elim_inr] at h))
       refine sw_gh ?_
       refine gh_sw ?_))
 | ((with_reducible refine fi 64 ?_ ?_); (focus (with_reducible assumption))
    first
    | (with_reducible refine here_loop (c := (.seq (.seq (.region 2 _ _) _) _)) ?_
       revert h
       with_reducible refine bind_elimY ?_
       intro o1 h hK
       refine lpA (β := (List Bool) × Int) 10000000 (fun x => [(.s 0, some (.v (.d (.row .bor 1 (Rw cB x.2.1))))), (.s 3, some (.v (V.int x.2.2)))]) (fun x => Yes (spec_l04Least.l1 x.1 x.2.1 x.2.2) o1) (_, _, _) h ?_
       rintro ⟨_ | k, a1, a2⟩ h
       · simp only [spec_l04Least.l1] at h; exact h.none
       simp only [spec_l04Least.l1] at h
   ))
 | (with_reducible refine here_next ?_
    first | refine nxA (_, _, _) h | refine nxA (_, _, _, _) h)
 | (with_reducible refine here_meet ?_
    first | refine mtA (_, _, _) h)
 | with_reducible refine sw_seq ?_
 | with_reducible refine seqQ_ret ?_
 | with_reducible refine seqQ_exit ?_
 | ((with_reducible refine wp_ite ?_ ?_)
    all_goals (intro hc; (try (simp only [Bool.not_eq_true, Bool.not_eq_false] at hc)); simp only [hc]))
 | (with_reducible refine rskip (hs := ?_) (h2 := ?_)
    · simp only [putSt, lk, lkb, reduceCtorEq, Nat.reduceEqDiff]; done)
 | (with_reducible refine ryes (hs := ?_) (h := ?_)
    · simp only [putSt, lk, lkb, reduceCtorEq, Nat.reduceEqDiff]; done)
 | (with_reducible refine rno (hs := ?_) (h := ?_)
    · simp only [putSt, lk, lkb, reduceCtorEq, Nat.reduceEqDiff, Bool.not_true, Bool.not_false]; done)
 | (with_reducible apply regW_guardN
    · simp only [dstOk, Nat.reduceLT]
    · rfl
    · simp only [putSt, lk, lkb, reduceCtorEq, Nat.reduceEqDiff]; rfl
    all_goals (intro hc; (try (simp only [Bool.not_true, Bool.not_false] at hc))))
 | (with_reducible apply sw_cond
    · simp only [putSt, lk, lkb, reduceCtorEq, Nat.reduceEqDiff]; rfl
    all_goals (intro hc; try (cases hc; done)))
 | ((first
     | ((with_reducible refine gh_ret ?_)
        revert h
        with_reducible refine some_elim ?_
        rintro rfl)
     | (with_reducible (first | refine ropD (h := ?_) | refine ropW (h := ?_))
        intro k hk)
     | skip)
    simp only [RetW, bn, lkb, evb, opC, opP, fetchN, fetchP, fetchAll, fetchO, Prog.bind, Prog.wp, Prog.wp_bind, lk, nameP, nameAll, Value.oneCell', putSt, stepP, putP, reduceCtorEq, V.lin, V.linL, D.lin, isNil, binP, unP, BinOp.isShift, Prog.ofO, Nat.reduceAdd, Nat.reduceMul, Nat.reduceSub, Nat.reduceLT, Nat.reduceLeDiff, Nat.reduceEqDiff, ite_true, ite_false, fieldAddrP, fieldP, indexAddrP, loadP, storeP, boxP, allocP, cellsP, asVal, setSeg, outP, outT, cntT, TyK.field, TyK.agg, zeroRow, V.ren, V.renL, forall_eq_or_imp, forall_const, minmaxP, lenP, lenOf, lenStr, V.asInt, decide_true, decide_false, sliceP, boundP, makeSliceP, convertP, appendP, rowsOfP, ontoP, sizeFits, V.rowSize, TyK.src, resV, resV.go, resV.gol, retP, retOne, retAll, resTo, objsAre, Option.map_eq_map, Function.const_apply, Int.reduceNeg, Int.reduceToNat, ty2, ty3, ty4, ty5, ty23, ty25, ty28, ty45, ty56, ty62, ty64, ty68, ty96, ty98, GI2.cells, Gl01Src.cells, cI, cB, cS, cL, GI2_e, Gl01Src_e, buildP, buildSliceP, putParts, structPlaces, chunks, List.replicate, List.flatten_nil, List.flatten_cons, Option.bind_some, shiftBin_shl, shiftBin_shr, intBin_quo, intBin_rem, Int.reduceLT, Int.reduceEq, not_false_eq_true, Int.not_lt, nilEqP, ne_eq, not_false_eq_true, not_true_eq_false, *]
    try (refine hk.use _ _ _ _ ?_; clear hk k))
 | fail)
  all_goals (try rfl)
  all_goals (try (simp; done))
  all_goals (try (simp_all; done))
def c_spec_l01Source := @And.left _ _ g2
def c_spec_l01Src_n := @And.left _ _ (@And.right _ _ g2)
def c_spec_l03Binary := @And.left _ _ (@And.right _ _ (@And.right _ _ g2))
def c_spec_l03Unary := @And.left _ _ (@And.right _ _ (@And.right _ _ (@And.right _ _ g2)))
def c_spec_l04Least := @And.left _ _ (@And.right _ _ (@And.right _ _ (@And.right _ _ (@And.right _ _ g2))))
def c_spec_l10Loc := @And.left _ _ (@And.right _ _ (@And.right _ _ (@And.right _ _ (@And.right _ _ (@And.right _ _ g2)))))
def c_spec_l15Has := @And.left _ _ (@And.right _ _ (@And.right _ _ (@And.right _ _ (@And.right _ _ (@And.right _ _ (@And.right _ _ g2))))))
def c_laws_eqIns := @And.left _ _ (@And.right _ _ (@And.right _ _ (@And.right _ _ (@And.right _ _ (@And.right _ _ (@And.right _ _ (@And.right _ _ g2)))))))
def c_laws_szInsS := @And.left _ _ (@And.right _ _ (@And.right _ _ (@And.right _ _ (@And.right _ _ (@And.right _ _ (@And.right _ _ (@And.right _ _ (@And.right _ _ g2))))))))
def c_laws_toIns := @And.left _ _ (@And.right _ _ (@And.right _ _ (@And.right _ _ (@And.right _ _ (@And.right _ _ (@And.right _ _ (@And.right _ _ (@And.right _ _ (@And.right _ _ g2)))))))))
def c_laws_toVal := (@And.right _ _ (@And.right _ _ (@And.right _ _ (@And.right _ _ (@And.right _ _ (@And.right _ _ (@And.right _ _ (@And.right _ _ (@And.right _ _ (@And.right _ _ g2))))))))))
end Go.Proofs.YtdlaplgofgklnaaDoor