/- WHAT IS PROVED: an abstract walker over the model, what some functions of the program answer, and laws of these answers. Conditions: none. -/
import Derived.Test.YtfdgjiifeijjfaaGreatDoorKe11
namespace Go.Proofs.YtfdgjiifeijjfaaGreatDoor
open Go.Proofs Go.Proofs.YtfdgjiifeijjfaaGreatDoor.L
set_option maxHeartbeats 8000000
set_option linter.unusedSimpArgs false
set_option linter.unusedVariables false
set_option maxRecDepth 100000
set_option linter.defProp false
def impl_AsmRight (k : Nat) (p0 : GProgram) (p1 : GAsm) : Option (Bool) :=
  (impl_known k p0).bind fun t1 => cond t1.2 ((impl_prog_asmRight k t1.1 p1).bind fun t2 => some t2) (some false)
def spec_AsmRight.a1 (k : Nat) (a1 : (List GFunc)) (a2 : Int) (a3 : (List GAsmIns)) (a4 : (List (List GI2))) : Option ((Bool) ⊕ ((List GFunc) × Int × (List GAsmIns) × (List (List GI2)))) :=
  (spec_l04Is k ((⟨a1⟩ : GProgram)) a2).bind fun t1 => cond ((!t1)) (some (.inl (false))) ((idx a1 a2).bind fun m2 => cond ((((a3.length : Int)) != ((m2.code.length : Int)))) (some (.inl (false))) (cond ((((a4.length : Int)) != ((a3.length : Int)))) (some (.inl (false))) (some (.inr (a1, a2, a3, a4)))))
def spec_AsmRight.a4 (k : Nat) (a1 : (List GFunc)) (a2 : Int) (a3 : (List GAsmIns)) (a4 : (List (List GI2))) (a5 : (List Int)) (a6 : (List GMov)) (a7 : Int) (a8 : Int) (a9 : (List GI2)) (a10 : Int) (a11 : Int) : Option ((Bool) ⊕ ((List GFunc) × Int × (List GAsmIns) × (List (List GI2)) × (List Int) × Int)) :=
  (spec_l10Ins k ((⟨a1⟩ : GProgram)) a2 ((⟨a6, a7, a8, a9, a10⟩ : GAsmIns))).bind fun t5 => cond ((!t5)) (some (.inl (false))) ((idx a5 a11).bind fun m6 => cond ((decide (m6 < 0))) (cond ((a7 != 0)) (some (.inl (false))) (cond ((decide (((a6.length : Int)) > 0))) (some (.inl (false))) (some (.inr (a1, a2, a3, a4, a5, a11))))) (some (.inr (a1, a2, a3, a4, a5, a11))))
def spec_AsmRight.a5 (k : Nat) (a1 : (List GFunc)) (a2 : Int) (a3 : (List GAsmIns)) (a4 : (List (List GI2))) (a5 : (List Int)) (a6 : Int) (a7 : Int) : Option ((List GFunc) × Int × (List GAsmIns) × (List (List GI2)) × (List Int) × Int × Int) :=
  (idx a5 a6).bind fun m7 => cond ((decide (m7 ≥ 0))) ((idx a1 a2).bind fun m8 => some (a1, a2, a3, a4, a5, a6, (IntKind.i64.wrap (m8.locals + m7)))) (some (a1, a2, a3, a4, a5, a6, a7))
def spec_AsmRight.l6 : Nat → (List GFunc) → Int → (List GAsmIns) → (List (List GI2)) → (List Int) → Int → Int → Option ((Bool) ⊕ ((List GFunc) × Int × (List GAsmIns) × (List (List GI2)) × (List Int) × Int))
  | 0, _, _, _, _, _, _, _ => none
  | k + 1, a1, a2, a3, a4, a5, a6, a7 => (idx a4 a6).bind fun m10 => cond ((decide (a7 < ((m10.length : Int))))) ((idx m10 a7).bind fun m11 => (spec_l10Val m11).bind fun t12 => cond ((!t12)) (some (.inl (false))) (spec_AsmRight.l6 k a1 a2 a3 a4 a5 a6 ((IntKind.i64.wrap (a7 + 1))))) (some (.inr (a1, a2, a3, a4, a5, a6)))
def spec_AsmRight.a3 (k : Nat) (a1 : (List GFunc)) (a2 : Int) (a3 : (List GAsmIns)) (a4 : (List (List GI2))) (a5 : (List Int)) (a6 : Int) : Option ((Bool) ⊕ ((List GFunc) × Int × (List GAsmIns) × (List (List GI2)) × (List Int) × Int)) :=
  (idx a3 a6).bind fun m4 => (spec_AsmRight.a4 k a1 a2 a3 a4 a5 m4.pre m4.op m4.to m4.l m4.t a6).bind fun o4 => Sum.elim (fun o4l => some (.inl (o4l))) (fun o4r => (spec_AsmRight.a5 k o4r.1 o4r.2.1 o4r.2.2.1 o4r.2.2.2.1 o4r.2.2.2.2.1 o4r.2.2.2.2.2 0).bind fun o5 => (idx o5.2.2.2.1 o5.2.2.2.2.2.1).bind fun m9 => cond ((((m9.length : Int)) != o5.2.2.2.2.2.2)) (some (.inl (false))) ((spec_AsmRight.l6 k o5.1 o5.2.1 o5.2.2.1 o5.2.2.2.1 o5.2.2.2.2.1 o5.2.2.2.2.2.1 0).bind fun o6 => Sum.elim (fun o6l => some (.inl (o6l))) (fun o6r => some (.inr (o6r.1, o6r.2.1, o6r.2.2.1, o6r.2.2.2.1, o6r.2.2.2.2.1, o6r.2.2.2.2.2))) o6)) o4
def spec_AsmRight.l2 : Nat → (List GFunc) → Int → (List GAsmIns) → (List (List GI2)) → (List Int) → Int → Option ((Bool) ⊕ (Unit))
  | 0, _, _, _, _, _, _ => none
  | k + 1, a1, a2, a3, a4, a5, a6 => cond ((decide (a6 < ((a3.length : Int))))) ((spec_AsmRight.a3 k a1 a2 a3 a4 a5 a6).bind fun o3 => Sum.elim (fun o3l => some (.inl (o3l))) (fun o3r => spec_AsmRight.l2 k o3r.1 o3r.2.1 o3r.2.2.1 o3r.2.2.2.1 o3r.2.2.2.2.1 ((IntKind.i64.wrap (o3r.2.2.2.2.2 + 1)))) o3) (some (.inr ()))
def spec_AsmRight (k : Nat) (p0 : GProgram) (p1 : GAsm) : Option (Bool) :=
  (spec_AsmRight.a1 k p0.funcs p1.func0 p1.code p1.maps).bind fun o1 => Sum.elim (fun o1l => some o1l) (fun o1r => (spec_l04Heights k ((⟨o1r.1⟩ : GProgram)) o1r.2.1).bind fun t3 => (spec_AsmRight.l2 k o1r.1 o1r.2.1 o1r.2.2.1 o1r.2.2.2 t3.1 0).bind fun o2 => Sum.elim (fun o2l => some o2l) (fun o2r => some true) o2) o1
theorem ge10 : (∀ {k : Nat} {p0 : GProgram} {p1 : GAsm} {r : Bool}, impl_AsmRight k p0 p1 = some r → Con Tryz.prog 24 [.agg [.d (.row .bor 3 (Rw (GFunc.cells .bor) p0.funcs))], .agg [V.int p1.func0, .d (.row .bor 5 (Rw (GAsmIns.cells .bor) p1.code)), .d (.row .bor 1 (Rw (cL .bor 2 GI2.cells) p1.maps))]] [] (V.bool r) []) ∧
  (∀ {k : Nat} {p0 : GProgram} {p1 : GAsm} {r : Bool}, spec_AsmRight k p0 p1 = some r → Con Tryz.prog 15 [.agg [.d (.row .bor 3 (Rw (GFunc.cells .bor) p0.funcs))], .agg [V.int p1.func0, .d (.row .bor 5 (Rw (GAsmIns.cells .bor) p1.code)), .d (.row .bor 1 (Rw (cL .bor 2 GI2.cells) p1.maps))]] [] (V.bool r) []) := by
  refine ⟨?_, ?_⟩
  all_goals intros
  all_goals rename_i h
  all_goals first
    | (with_reducible refine isf 24 ?_
       refine csw Tryz.func24 Tryz.call24 (by simp [Tryz.ntmps24]) (h := ?_)
       refine mkf 24 fun hF => ?_
       rw [Tryz.ntmps24, Tryz.results24]
       unfold impl_AsmRight at h)
    | (with_reducible refine isf 15 ?_
       refine csw Tryz.func15 Tryz.call15 (by simp [Tryz.ntmps15]) (h := ?_)
       refine mkf 15 fun hF => ?_
       rw [Tryz.ntmps15, Tryz.results15]
       unfold spec_AsmRight at h)
  all_goals (replace h := Yes.mk h; simp only [entryS, entryO, Nat.reduceAdd, List.length_nil, List.length_cons])
  repeat' (first
 | (with_reducible (first | refine sw_reg ?_ | refine sw_ret ?_ | refine sw_skip ?_ | refine sw_block ?_ | refine sw_exit ?_ | refine seqQ_normal ?_ | refine blockQ_normal ?_ | refine blockQ_ret ?_ | refine blockQ_this ?_ | refine blockQ_other (by decide) ?_ | refine regW_nil ?_ | refine sw_draw mixed ?_ | refine retQ_ret ?_ | refine retQ_normal ?_))
 | (with_reducible refine regD_nil ?_
    refine ⟨by kernel_rfl, ?_⟩)
 | (revert h; (first | ((with_reducible refine idx_elim ?_); intro m hm1 hm2 hm3 h; (try (simp only [Int.reduceToNat] at hm3)); (try (revert hm3; (with_reducible apply same_elim); (focus (with_reducible assumption)); rintro rfl)); (try (simp only [List.length_set, List.length_cons, List.length_nil, List.length_replicate, Nat.reduceAdd, Int.cast_ofNat_Int, Nat.zero_add, List.length_append] at hm2))) | (with_reducible refine sidx_elim ?_; intro m hm1 hm3 h) | (with_reducible refine gd_elim ?_; intro hg h; try (have hg2 := hg.2; have hg := hg.1; (try (simp only [Nat.reduceLeDiff] at hg2)); (try (revert hg2; (with_reducible refine toNat_elim hg ?_); intro hg2 hg4)); try (have hg3 := hg2.2; have hg2 := hg2.1; (try (simp only [Nat.reduceLeDiff] at hg3))))) | (with_reducible refine condt_elim ?_ ?_; (focus (with_reducible assumption)); intro h) | (with_reducible refine condf_elim ?_ ?_; (focus (with_reducible assumption)); intro h)))
 | ((with_reducible first | refine pnR ?_ | refine pnE ?_ | refine pmR ?_ | refine pmE ?_)
    obtain rfl := h.get
    have h := hK
    clear hK
    (try (simp only [Sum.elim_inl, Sum.elim_inr] at h)))
 | ((with_reducible refine fi 15 ?_ ?_); (focus (with_reducible assumption))
    first
    | (with_reducible refine here_loop (c := (.seq (.seq (.region 16 _ _) _) _)) ?_
       revert h
       with_reducible refine bind_elimY ?_
       intro o6 h hK
       refine lpA (β := (List GFunc) × Int × (List GAsmIns) × (List (List GI2)) × (List Int) × Int × Int) 60000000 (fun x => [(.s 2, some (.v (.mp 0 1 0 0))), (.s 3, some (.v (.mp 64 3 0 0))), (.s 5, some (.v (.sl 10000192 1 0 x.2.2.2.2.2.1.length))), (.s 7, some (.v (V.int x.2.2.2.2.2.2.1))), (.s 10, some (.v (V.int x.2.2.2.2.2.2.2))), (.r 0, some (.o 1 [[.d (.row .bor 3 (Rw (GFunc.cells .bor) x.2.1))]])), (.r 64, some (.o 3 [[V.int x.2.2.1, .d (.row .bor 5 (Rw (GAsmIns.cells .bor) x.2.2.2.1)), .d (.row .bor 1 (Rw (cL .bor 2 GI2.cells) x.2.2.2.2.1))]])), (.r 10000192, some (.o 1 (dd (Rw (cI .i64) x.2.2.2.2.2.1))))]) (fun x => Yes (spec_AsmRight.l6 x.1 x.2.1 x.2.2.1 x.2.2.2.1 x.2.2.2.2.1 x.2.2.2.2.2.1 x.2.2.2.2.2.2.1 x.2.2.2.2.2.2.2) o6) (_, _, _, _, _, _, _, _) h ?_
       rintro ⟨_ | k, a1, a2, a3, a4, a5, a6, a7⟩ h
       · simp only [spec_AsmRight.l6] at h; exact h.none
       simp only [spec_AsmRight.l6] at h
   )
    | (with_reducible refine here_join (a := (.seq (.region 11 _ _) _)) (b := (.seq (.seq (.region 13 _ _) _) _)) ?_
       revert h
       with_reducible refine bind_elimY ?_
       intro o5 h hK
       unfold spec_AsmRight.a5 at h
       refine sw_join (ι := (List GFunc) × Int × (List GAsmIns) × (List (List GI2)) × (List Int) × Int × Int) 50000000 (fun x => [(.s 2, some (.v (.mp 0 1 0 0))), (.s 3, some (.v (.mp 64 3 0 0))), (.s 5, some (.v (.sl 10000192 1 0 x.2.2.2.2.1.length))), (.s 7, some (.v (V.int x.2.2.2.2.2.1))), (.s 9, some (.v (V.int x.2.2.2.2.2.2))), (.r 0, some (.o 1 [[.d (.row .bor 3 (Rw (GFunc.cells .bor) x.1))]])), (.r 64, some (.o 3 [[V.int x.2.1, .d (.row .bor 5 (Rw (GAsmIns.cells .bor) x.2.2.1)), .d (.row .bor 1 (Rw (cL .bor 2 GI2.cells) x.2.2.2.1))]])), (.r 10000192, some (.o 1 (dd (Rw (cI .i64) x.2.2.2.2.1))))]) (fun x => Yes (some (x)) o5) ?_ ?_
       rotate_left
       rintro ⟨b1, b2, b3, b4, b5, b6, b7⟩ h
       obtain rfl := h.get
       have h := hK
       clear hK
       (try (simp only [Sum.elim_inl, Sum.elim_inr] at h))
       refine sw_gh ?_
       refine gh_sw ?_)
    | (with_reducible refine here_join (a := (.seq (.region 8 _ _) _)) (b := (.seq (.region 10 _ _) _)) ?_
       revert h
       with_reducible refine bind_elimY ?_
       intro o4 h hK
       unfold spec_AsmRight.a4 at h
       refine sw_join (ι := (List GFunc) × Int × (List GAsmIns) × (List (List GI2)) × (List Int) × Int) 40000000 (fun x => [(.s 2, some (.v (.mp 0 1 0 0))), (.s 3, some (.v (.mp 64 3 0 0))), (.s 5, some (.v (.sl 10000192 1 0 x.2.2.2.2.1.length))), (.s 7, some (.v (V.int x.2.2.2.2.2))), (.r 0, some (.o 1 [[.d (.row .bor 3 (Rw (GFunc.cells .bor) x.1))]])), (.r 64, some (.o 3 [[V.int x.2.1, .d (.row .bor 5 (Rw (GAsmIns.cells .bor) x.2.2.1)), .d (.row .bor 1 (Rw (cL .bor 2 GI2.cells) x.2.2.2.1))]])), (.r 10000192, some (.o 1 (dd (Rw (cI .i64) x.2.2.2.2.1))))]) (fun x => Yes (some (.inr x)) o4) ?_ ?_
       rotate_left
       rintro ⟨b1, b2, b3, b4, b5, b6⟩ h
       obtain rfl := h.get
       have h := hK
       clear hK
       (try (simp only [Sum.elim_inl, Sum.elim_inr] at h))
       refine sw_gh ?_
       refine gh_sw ?_)
    | (with_reducible refine here_join (a := (.block 1 _)) (b := (.region 6 _ _)) ?_
       revert h
       with_reducible refine bind_elimY ?_
       intro o3 h hK
       unfold spec_AsmRight.a3 at h
       refine sw_join (ι := (List GFunc) × Int × (List GAsmIns) × (List (List GI2)) × (List Int) × Int) 30000000 (fun x => [(.s 2, some (.v (.mp 0 1 0 0))), (.s 3, some (.v (.mp 64 3 0 0))), (.s 5, some (.v (.sl 10000192 1 0 x.2.2.2.2.1.length))), (.s 7, some (.v (V.int x.2.2.2.2.2))), (.r 0, some (.o 1 [[.d (.row .bor 3 (Rw (GFunc.cells .bor) x.1))]])), (.r 64, some (.o 3 [[V.int x.2.1, .d (.row .bor 5 (Rw (GAsmIns.cells .bor) x.2.2.1)), .d (.row .bor 1 (Rw (cL .bor 2 GI2.cells) x.2.2.2.1))]])), (.r 10000192, some (.o 1 (dd (Rw (cI .i64) x.2.2.2.2.1))))]) (fun x => Yes (some (.inr x)) o3) ?_ ?_
       rotate_left
       rintro ⟨b1, b2, b3, b4, b5, b6⟩ h
       obtain rfl := h.get
       have h := hK
       clear hK
       (try (simp only [Sum.elim_inl, Sum.elim_inr] at h))
       refine sw_gh ?_
       refine gh_sw ?_)
    | (with_reducible refine here_loop (c := (.seq (.seq (.region 5 _ _) _) _)) ?_
       revert h
       with_reducible refine bind_elimY ?_
       intro o2 h hK
       refine lpA (β := (List GFunc) × Int × (List GAsmIns) × (List (List GI2)) × (List Int) × Int) 20000000 (fun x => [(.s 2, some (.v (.mp 0 1 0 0))), (.s 3, some (.v (.mp 64 3 0 0))), (.s 5, some (.v (.sl 10000192 1 0 x.2.2.2.2.2.1.length))), (.s 7, some (.v (V.int x.2.2.2.2.2.2))), (.r 0, some (.o 1 [[.d (.row .bor 3 (Rw (GFunc.cells .bor) x.2.1))]])), (.r 64, some (.o 3 [[V.int x.2.2.1, .d (.row .bor 5 (Rw (GAsmIns.cells .bor) x.2.2.2.1)), .d (.row .bor 1 (Rw (cL .bor 2 GI2.cells) x.2.2.2.2.1))]])), (.r 10000192, some (.o 1 (dd (Rw (cI .i64) x.2.2.2.2.2.1))))]) (fun x => Yes (spec_AsmRight.l2 x.1 x.2.1 x.2.2.1 x.2.2.2.1 x.2.2.2.2.1 x.2.2.2.2.2.1 x.2.2.2.2.2.2) o2) (_, _, _, _, _, _, _) h ?_
       rintro ⟨_ | k, a1, a2, a3, a4, a5, a6⟩ h
       · simp only [spec_AsmRight.l2] at h; exact h.none
       simp only [spec_AsmRight.l2] at h
   )
    | (with_reducible refine here_join (a := (.seq (.region 1 _ _) _)) (b := (.seq (.region 3 _ _) _)) ?_
       revert h
       with_reducible refine bind_elimY ?_
       intro o1 h hK
       unfold spec_AsmRight.a1 at h
       refine sw_join (ι := (List GFunc) × Int × (List GAsmIns) × (List (List GI2))) 10000000 (fun x => [(.s 2, some (.v (.mp 0 1 0 0))), (.s 3, some (.v (.mp 64 3 0 0))), (.r 0, some (.o 1 [[.d (.row .bor 3 (Rw (GFunc.cells .bor) x.1))]])), (.r 64, some (.o 3 [[V.int x.2.1, .d (.row .bor 5 (Rw (GAsmIns.cells .bor) x.2.2.1)), .d (.row .bor 1 (Rw (cL .bor 2 GI2.cells) x.2.2.2))]]))]) (fun x => Yes (some (.inr x)) o1) ?_ ?_
       rotate_left
       rintro ⟨b1, b2, b3, b4⟩ h
       obtain rfl := h.get
       have h := hK
       clear hK
       (try (simp only [Sum.elim_inl, Sum.elim_inr] at h))
       refine sw_gh ?_
       refine gh_sw ?_))
 | (with_reducible refine here_next ?_
    first | refine nxA (_, _, _, _, _, _, _) h | refine nxA (_, _, _, _, _, _, _, _) h)
 | (with_reducible refine here_meet ?_
    first | refine mtA (_, _, _, _) h | refine mtA (_, _, _, _, _, _) h | refine mtA (_, _, _, _, _, _, _) h)
 | with_reducible refine sw_seq ?_
 | with_reducible refine seqQ_ret ?_
 | with_reducible refine seqQ_exit ?_
 | ((with_reducible refine wp_ite ?_ ?_)
    all_goals (intro hc; (try (simp only [Bool.not_eq_true, Bool.not_eq_false] at hc)); simp only [hc]))
 | (with_reducible refine rskip (hs := ?_) (h2 := ?_)
    · simp only [lkd, lkb, reduceCtorEq, Nat.reduceEqDiff]; done)
 | (with_reducible refine ryes (hs := ?_) (h := ?_)
    · simp only [lkd, lkb, reduceCtorEq, Nat.reduceEqDiff]; done)
 | (with_reducible refine rno (hs := ?_) (h := ?_)
    · simp only [lkd, lkb, reduceCtorEq, Nat.reduceEqDiff, Bool.not_true, Bool.not_false]; done)
 | (with_reducible apply regW_guardN
    · simp only [dstOk, Nat.reduceLT]
    · rfl
    · simp only [lkd, lkb, reduceCtorEq, Nat.reduceEqDiff]; rfl
    all_goals (intro hc; (try (simp only [Bool.not_true, Bool.not_false] at hc))))
 | (with_reducible apply sw_cond
    · simp only [lkd, lkb, reduceCtorEq, Nat.reduceEqDiff]; rfl
    all_goals (intro hc; try (cases hc; done)))
 | ((first
     | ((with_reducible refine gh_ret ?_)
        revert h
        with_reducible refine some_elim ?_
        rintro rfl)
     | (with_reducible refine here_call ?_
        revert h
        with_reducible refine bind_elim ?_
        intro t ht h
        (first
          | ((first
              | ((with_reducible refine here_call (f := 43) ?_); refine call_dataE (c_impl_known ht) ?_ rfl ?_)
              | ((with_reducible refine here_call (f := 35) ?_); refine call_dataE (c_spec_l04Is ht) ?_ rfl ?_)
              | ((with_reducible refine here_call (f := 36) ?_); refine call_dataE (c_spec_l04Heights ht) ?_ rfl ?_)
              | ((with_reducible refine here_call (f := 37) ?_); refine call_dataE (c_spec_l10Ins ht) ?_ rfl ?_)
              | ((with_reducible refine here_call (f := 38) ?_); refine call_dataE (c_spec_l10Val ht) ?_ rfl ?_))
             · first | rfl | (simp; done))
          | ((with_reducible refine here_call (f := 44) ?_); refine call_autoE (c_impl_prog_asmRight ht) ?_ ?_ ?_
             · simp only [hyb, hyd, GI2_lend, GFunc_lend, GProgram_lend, Gprog_lend, GMov_lend, GAsmIns_lend, GAsm_lend, GI3_lend, LcIi64_lend, LGI2_lend, List.take_of_length_le, lkd, lkb, reduceCtorEq, Nat.reduceEqDiff, *]; first | rfl | done
             · first | rfl | (simp only [nbd, nbb, GI2_nb, GFunc_nb, GProgram_nb, Gprog_nb, GMov_nb, GAsmIns_nb, GAsm_nb, GI3_nb, LcIi64_nb, LGI2_nb]; done)
             simp only [V.namesOf, V.namesOfL, List.foldl_cons, List.foldl_nil, List.nil_append, List.append_nil, List.cons_append])))
     | (with_reducible (first | refine ropD (h := ?_) | refine ropW (h := ?_))
        intro k hk)
     | skip)
    simp only [bn, lkb, evb, evd, Value.oneCell', setSeg, reduceCtorEq, Nat.reduceAdd, Nat.reduceMul, Nat.reduceSub, Nat.reduceLT, Nat.reduceLeDiff, Nat.reduceEqDiff, Int.reduceNeg, Int.reduceToNat, ty2, ty3, ty4, ty32, ty34, ty36, ty37, ty39, ty50, ty51, ty53, ty56, ty58, ty77, ty79, ty80, ty82, ty90, ty105, ty114, ty118, GAsm.cells, GAsmIns.cells, GFunc.cells, GI2.cells, GI3.cells, GMov.cells, GProgram.cells, Gprog.cells, cI, cB, cS, cL, GI2_e, GFunc_e, GProgram_e, Gprog_e, GMov_e, GAsmIns_e, GAsm_e, GI3_e, LcIi64_e, LGI2_e, *]
    try (refine hk.use _ _ _ _ ?_; clear hk k))
 | fail)
  all_goals (try rfl)
  all_goals (try (simp; done))
  all_goals (try (simp_all; done))
def c_impl_AsmRight := @And.left _ _ ge10
def c_spec_AsmRight := (@And.right _ _ ge10)
end Go.Proofs.YtfdgjiifeijjfaaGreatDoor