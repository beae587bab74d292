/- WHAT IS PROVED: an abstract walker over the model, what some functions of the program answer, and laws of these answers. Conditions: none. -/
import Derived.Test.YtfdgjiifeijjfaaGreatDoorKe10
namespace Go.Proofs.YtfdgjiifeijjfaaGreatDoor
open Go.Proofs Go.Proofs.YtfdgjiifeijjfaaGreatDoor.L
set_option maxHeartbeats 8000000
set_option linter.unusedSimpArgs false
set_option linter.unusedVariables false
set_option maxRecDepth 100000
set_option linter.defProp false
def impl_prog_asmRight.a1 (k : Nat) (a1 : Int) (a2 : (List GAsmIns)) (a3 : (List (List GI2))) (a4 : Gprog) : Option ((Bool) ⊕ (Int × (List GAsmIns) × (List (List GI2)) × Gprog)) :=
  (impl_hasFunc a4.program a1).bind fun t1 => cond ((!t1)) (some (.inl (false))) ((impl_prog_code a4 a1).bind fun t2 => cond ((((a2.length : Int)) != ((t2.length : Int)))) (some (.inl (false))) (cond ((((a3.length : Int)) != ((a2.length : Int)))) (some (.inl (false))) (some (.inr (a1, a2, a3, a4)))))
def impl_prog_asmRight.a4 (k : Nat) (a1 : Int) (a2 : (List GAsmIns)) (a3 : (List (List GI2))) (a4 : (List GMov)) (a5 : Int) (a6 : Int) (a7 : (List GI2)) (a8 : Int) (a9 : Gprog) (a10 : Int) (a11 : Int) (a12 : (List GAsmIns)) (a13 : Int) (a14 : Int) : Option ((Bool) ⊕ (Int × (List GAsmIns) × (List (List GI2)) × Gprog × Int × (List GAsmIns) × Int × Int)) :=
  (idx a3 a10).bind fun m8 => (impl_prog_slots a9 a1 a11).bind fun t9 => cond ((((m8.length : Int)) != t9)) (some (.inl (false))) ((impl_prog_insRight k a9 a1 ((⟨a4, a5, a6, a7, a8⟩ : GAsmIns))).bind fun t10 => cond ((!t10)) (some (.inl (false))) (some (.inr (a1, a2, a3, a9, a10, a12, a13, a14))))
def impl_prog_asmRight.l5 : Nat → Int → (List GAsmIns) → (List (List GI2)) → Gprog → (List GAsmIns) → Int → Int → (List GI2) → Int → Int → Option ((Bool) ⊕ (Int × (List GAsmIns) × (List (List GI2)) × Gprog × (List GAsmIns) × Int × Int))
  | 0, _, _, _, _, _, _, _, _, _, _ => none
  | k + 1, a1, a2, a3, a4, a5, a6, a7, a8, a9, a10 => cond ((decide (a10 < a9))) ((idx a8 a10).bind fun m12 => (impl_Val_right m12).bind fun t13 => cond ((!t13)) (some (.inl (false))) (impl_prog_asmRight.l5 k a1 a2 a3 a4 a5 a6 a7 a8 a9 ((IntKind.i64.wrap (a10 + 1))))) (some (.inr (a1, a2, a3, a4, a5, a6, a7)))
def impl_prog_asmRight.a3 (k : Nat) (a1 : Int) (a2 : (List GAsmIns)) (a3 : (List (List GI2))) (a4 : Gprog) (a5 : (List GAsmIns)) (a6 : Int) (a7 : Int) : Option ((Bool) ⊕ (Int × (List GAsmIns) × (List (List GI2)) × Gprog × (List GAsmIns) × Int × Int)) :=
  (idx a5 a7).bind fun m3 => (impl_prog_reached a4 a1 a7).bind fun t4 => cond ((!t4)) ((idx a3 a7).bind fun m5 => cond ((((m5.length : Int)) != 0)) (some (.inl (false))) ((impl_bareNop).bind fun t6 => (impl_sameIns k m3 t6).bind fun t7 => cond ((!t7)) (some (.inl (false))) (some (.inr (a1, a2, a3, a4, a5, a6, a7))))) ((impl_prog_asmRight.a4 k a1 a2 a3 m3.pre m3.op m3.to m3.l m3.t a4 a7 a7 a5 a6 a7).bind fun o4 => Sum.elim (fun o4l => some (.inl (o4l))) (fun o4r => (idx o4r.2.2.1 o4r.2.2.2.2.1).bind fun m11 => (impl_prog_asmRight.l5 k o4r.1 o4r.2.1 o4r.2.2.1 o4r.2.2.2.1 o4r.2.2.2.2.2.1 o4r.2.2.2.2.2.2.1 o4r.2.2.2.2.2.2.2 m11 ((m11.length : Int)) 0).bind fun o5 => Sum.elim (fun o5l => some (.inl (o5l))) (fun o5r => some (.inr (o5r.1, o5r.2.1, o5r.2.2.1, o5r.2.2.2.1, o5r.2.2.2.2.1, o5r.2.2.2.2.2.1, o5r.2.2.2.2.2.2))) o5) o4)
def impl_prog_asmRight.l2 : Nat → Int → (List GAsmIns) → (List (List GI2)) → Gprog → (List GAsmIns) → Int → Int → Option ((Bool) ⊕ (Unit))
  | 0, _, _, _, _, _, _, _ => none
  | k + 1, a1, a2, a3, a4, a5, a6, a7 => cond ((decide (a7 < a6))) ((impl_prog_asmRight.a3 k a1 a2 a3 a4 a5 a6 a7).bind fun o3 => Sum.elim (fun o3l => some (.inl (o3l))) (fun o3r => impl_prog_asmRight.l2 k o3r.1 o3r.2.1 o3r.2.2.1 o3r.2.2.2.1 o3r.2.2.2.2.1 o3r.2.2.2.2.2.1 ((IntKind.i64.wrap (o3r.2.2.2.2.2.2 + 1)))) o3) (some (.inr ()))
def impl_prog_asmRight (k : Nat) (p0 : Gprog) (p1 : GAsm) : Option (Bool) :=
  (impl_prog_asmRight.a1 k p1.func0 p1.code p1.maps p0).bind fun o1 => Sum.elim (fun o1l => some o1l) (fun o1r => (impl_prog_asmRight.l2 k o1r.1 o1r.2.1 o1r.2.2.1 o1r.2.2.2 o1r.2.1 ((o1r.2.1.length : Int)) 0).bind fun o2 => Sum.elim (fun o2l => some o2l) (fun o2r => some true) o2) o1
def spec_l04Is (k : Nat) (p0 : GProgram) (p1 : Int) : Option (Bool) :=
  (spec_l04Right k p0).bind fun t1 => cond t1 (cond ((decide (p1 ≥ 0))) (some ((decide (p1 < ((p0.funcs.length : Int)))))) (some false)) (some false)
theorem ge9 : (∀ {k : Nat} {p0 : Gprog} {p1 : GAsm} {r : Bool}, impl_prog_asmRight k p0 p1 = some r → Con Tryz.prog 44 [.d (.ptr .bor [.row .bor 3 (Rw (GFunc.cells .bor) p0.program.funcs), .row .bor 1 (Rw (cL .bor 1 (cI .i64)) p0.h)]), .agg [V.int p1.func0, .d (.row .bor 5 (Rw (GAsmIns.cells .bor) p1.code)), .d (.row .bor 1 (Rw (cL .bor 2 GI2.cells) p1.maps))]] [] (V.bool r) []) ∧
  (∀ {k : Nat} {p0 : GProgram} {p1 : Int} {r : Bool}, spec_l04Is k p0 p1 = some r → Con Tryz.prog 35 [.agg [.d (.row .bor 3 (Rw (GFunc.cells .bor) p0.funcs))], V.int p1] [] (V.bool r) []) := by
  refine ⟨?_, ?_⟩
  all_goals intros
  all_goals rename_i h
  all_goals first
    | (with_reducible refine isf 44 ?_
       refine csw Tryz.func44 Tryz.call44 (by simp [Tryz.ntmps44]) (h := ?_)
       refine mkf 44 fun hF => ?_
       rw [Tryz.ntmps44, Tryz.results44]
       unfold impl_prog_asmRight at h)
    | (with_reducible refine isf 35 ?_
       refine csw Tryz.func35 Tryz.call35 (by simp [Tryz.ntmps35]) (h := ?_)
       refine mkf 35 fun hF => ?_
       rw [Tryz.ntmps35, Tryz.results35]
       unfold spec_l04Is at h)
  all_goals (replace h := Yes.mk h; simp only [entryS, entryO, Nat.reduceAdd, List.length_nil, List.length_cons])
  repeat' (first
 | (with_reducible (first | refine sw_reg ?_ | refine sw_ret ?_ | refine sw_skip ?_ | refine sw_block ?_ | refine sw_exit ?_ | refine seqQ_normal ?_ | refine blockQ_normal ?_ | refine blockQ_ret ?_ | refine blockQ_this ?_ | refine blockQ_other (by decide) ?_ | refine regW_nil ?_ | refine sw_draw mixed ?_ | refine retQ_ret ?_ | refine retQ_normal ?_))
 | (with_reducible refine regD_nil ?_
    refine ⟨by kernel_rfl, ?_⟩)
 | (revert h; (first | ((with_reducible refine idx_elim ?_); intro m hm1 hm2 hm3 h; (try (simp only [Int.reduceToNat] at hm3)); (try (revert hm3; (with_reducible apply same_elim); (focus (with_reducible assumption)); rintro rfl)); (try (simp only [List.length_set, List.length_cons, List.length_nil, List.length_replicate, Nat.reduceAdd, Int.cast_ofNat_Int, Nat.zero_add, List.length_append] at hm2))) | (with_reducible refine sidx_elim ?_; intro m hm1 hm3 h) | (with_reducible refine gd_elim ?_; intro hg h; try (have hg2 := hg.2; have hg := hg.1; (try (simp only [Nat.reduceLeDiff] at hg2)); (try (revert hg2; (with_reducible refine toNat_elim hg ?_); intro hg2 hg4)); try (have hg3 := hg2.2; have hg2 := hg2.1; (try (simp only [Nat.reduceLeDiff] at hg3))))) | (with_reducible refine condt_elim ?_ ?_; (focus (with_reducible assumption)); intro h) | (with_reducible refine condf_elim ?_ ?_; (focus (with_reducible assumption)); intro h)))
 | ((with_reducible first | refine pnR ?_ | refine pnE ?_ | refine pmR ?_ | refine pmE ?_)
    obtain rfl := h.get
    have h := hK
    clear hK
    (try (simp only [Sum.elim_inl, Sum.elim_inr] at h)))
 | ((with_reducible refine fi 44 ?_ ?_); (focus (with_reducible assumption))
    first
    | (with_reducible refine here_loop (c := (.seq (.region 13 _ _) _)) ?_
       revert h
       with_reducible refine bind_elimY ?_
       intro o5 h hK
       refine lpA (β := Int × (List GAsmIns) × (List (List GI2)) × Gprog × (List GAsmIns) × Int × Int × (List GI2) × Int × Int) 50000000 (fun x => [(.s 0, some (.v (.d (.ptr .bor [.row .bor 3 (Rw (GFunc.cells .bor) x.2.2.2.2.1.program.funcs), .row .bor 1 (Rw (cL .bor 1 (cI .i64)) x.2.2.2.2.1.h)])))), (.s 3, some (.v (.mp 0 3 0 0))), (.s 39, some (.v (.d (.row .bor 5 (Rw (GAsmIns.cells .bor) x.2.2.2.2.2.1))))), (.s 40, some (.v (V.int x.2.2.2.2.2.2.1))), (.s 41, some (.v (V.int x.2.2.2.2.2.2.2.1))), (.s 90, some (.v (.d (.row .bor 2 (Rw GI2.cells x.2.2.2.2.2.2.2.2.1))))), (.s 91, some (.v (V.int x.2.2.2.2.2.2.2.2.2.1))), (.s 92, some (.v (V.int x.2.2.2.2.2.2.2.2.2.2))), (.r 0, some (.o 3 [[V.int x.2.1, .d (.row .bor 5 (Rw (GAsmIns.cells .bor) x.2.2.1)), .d (.row .bor 1 (Rw (cL .bor 2 GI2.cells) x.2.2.2.1))]]))]) (fun x => Yes (impl_prog_asmRight.l5 x.1 x.2.1 x.2.2.1 x.2.2.2.1 x.2.2.2.2.1 x.2.2.2.2.2.1 x.2.2.2.2.2.2.1 x.2.2.2.2.2.2.2.1 x.2.2.2.2.2.2.2.2.1 x.2.2.2.2.2.2.2.2.2.1 x.2.2.2.2.2.2.2.2.2.2) o5) (_, _, _, _, _, _, _, _, _, _, _) h ?_
       rintro ⟨_ | k, a1, a2, a3, a4, a5, a6, a7, a8, a9, a10⟩ h
       · simp only [impl_prog_asmRight.l5] at h; exact h.none
       simp only [impl_prog_asmRight.l5] at h
   )
    | (with_reducible refine here_join (a := (.seq (.region 10 _ _) _)) (b := (.seq (.region 12 _ _) _)) ?_
       revert h
       with_reducible refine bind_elimY ?_
       intro o4 h hK
       unfold impl_prog_asmRight.a4 at h
       refine sw_join (ι := Int × (List GAsmIns) × (List (List GI2)) × Gprog × Int × (List GAsmIns) × Int × Int) 40000000 (fun x => [(.s 0, some (.v (.d (.ptr .bor [.row .bor 3 (Rw (GFunc.cells .bor) x.2.2.2.1.program.funcs), .row .bor 1 (Rw (cL .bor 1 (cI .i64)) x.2.2.2.1.h)])))), (.s 3, some (.v (.mp 0 3 0 0))), (.s 5, some (.v (V.int x.2.2.2.2.1))), (.s 39, some (.v (.d (.row .bor 5 (Rw (GAsmIns.cells .bor) x.2.2.2.2.2.1))))), (.s 40, some (.v (V.int x.2.2.2.2.2.2.1))), (.s 41, some (.v (V.int x.2.2.2.2.2.2.2))), (.r 0, some (.o 3 [[V.int x.1, .d (.row .bor 5 (Rw (GAsmIns.cells .bor) x.2.1)), .d (.row .bor 1 (Rw (cL .bor 2 GI2.cells) x.2.2.1))]]))]) (fun x => Yes (some (.inr x)) o4) ?_ ?_
       rotate_left
       rintro ⟨b1, b2, b3, b4, b5, b6, b7, b8⟩ h
       obtain rfl := h.get
       have h := hK
       clear hK
       (try (simp only [Sum.elim_inl, Sum.elim_inr] at h))
       refine sw_gh ?_
       refine gh_sw ?_)
    | (with_reducible refine here_join (a := (.block 1 _)) (b := (.region 18 _ _)) ?_
       revert h
       with_reducible refine bind_elimY ?_
       intro o3 h hK
       unfold impl_prog_asmRight.a3 at h
       refine sw_join (ι := Int × (List GAsmIns) × (List (List GI2)) × Gprog × (List GAsmIns) × Int × Int) 30000000 (fun x => [(.s 0, some (.v (.d (.ptr .bor [.row .bor 3 (Rw (GFunc.cells .bor) x.2.2.2.1.program.funcs), .row .bor 1 (Rw (cL .bor 1 (cI .i64)) x.2.2.2.1.h)])))), (.s 3, some (.v (.mp 0 3 0 0))), (.s 39, some (.v (.d (.row .bor 5 (Rw (GAsmIns.cells .bor) x.2.2.2.2.1))))), (.s 40, some (.v (V.int x.2.2.2.2.2.1))), (.s 41, some (.v (V.int x.2.2.2.2.2.2))), (.r 0, some (.o 3 [[V.int x.1, .d (.row .bor 5 (Rw (GAsmIns.cells .bor) x.2.1)), .d (.row .bor 1 (Rw (cL .bor 2 GI2.cells) x.2.2.1))]]))]) (fun x => Yes (some (.inr x)) o3) ?_ ?_
       rotate_left
       rintro ⟨b1, b2, b3, b4, b5, b6, b7⟩ h
       obtain rfl := h.get
       have h := hK
       clear hK
       (try (simp only [Sum.elim_inl, Sum.elim_inr] at h))
       refine sw_gh ?_
       refine gh_sw ?_)
    | (with_reducible refine here_loop (c := (.seq (.region 4 _ _) _)) ?_
       revert h
       with_reducible refine bind_elimY ?_
       intro o2 h hK
       refine lpA (β := Int × (List GAsmIns) × (List (List GI2)) × Gprog × (List GAsmIns) × Int × Int) 20000000 (fun x => [(.s 0, some (.v (.d (.ptr .bor [.row .bor 3 (Rw (GFunc.cells .bor) x.2.2.2.2.1.program.funcs), .row .bor 1 (Rw (cL .bor 1 (cI .i64)) x.2.2.2.2.1.h)])))), (.s 3, some (.v (.mp 0 3 0 0))), (.s 39, some (.v (.d (.row .bor 5 (Rw (GAsmIns.cells .bor) x.2.2.2.2.2.1))))), (.s 40, some (.v (V.int x.2.2.2.2.2.2.1))), (.s 41, some (.v (V.int x.2.2.2.2.2.2.2))), (.r 0, some (.o 3 [[V.int x.2.1, .d (.row .bor 5 (Rw (GAsmIns.cells .bor) x.2.2.1)), .d (.row .bor 1 (Rw (cL .bor 2 GI2.cells) x.2.2.2.1))]]))]) (fun x => Yes (impl_prog_asmRight.l2 x.1 x.2.1 x.2.2.1 x.2.2.2.1 x.2.2.2.2.1 x.2.2.2.2.2.1 x.2.2.2.2.2.2.1 x.2.2.2.2.2.2.2) o2) (_, _, _, _, _, _, _, _) h ?_
       rintro ⟨_ | k, a1, a2, a3, a4, a5, a6, a7⟩ h
       · simp only [impl_prog_asmRight.l2] at h; exact h.none
       simp only [impl_prog_asmRight.l2] at h
   )
    | (with_reducible refine here_join (a := (.seq (.region 1 _ _) _)) (b := (.seq (.seq (.region 3 _ _) _) _)) ?_
       revert h
       with_reducible refine bind_elimY ?_
       intro o1 h hK
       unfold impl_prog_asmRight.a1 at h
       refine sw_join (ι := Int × (List GAsmIns) × (List (List GI2)) × Gprog) 10000000 (fun x => [(.s 0, some (.v (.d (.ptr .bor [.row .bor 3 (Rw (GFunc.cells .bor) x.2.2.2.program.funcs), .row .bor 1 (Rw (cL .bor 1 (cI .i64)) x.2.2.2.h)])))), (.s 3, some (.v (.mp 0 3 0 0))), (.r 0, some (.o 3 [[V.int x.1, .d (.row .bor 5 (Rw (GAsmIns.cells .bor) x.2.1)), .d (.row .bor 1 (Rw (cL .bor 2 GI2.cells) x.2.2.1))]]))]) (fun x => Yes (some (.inr x)) o1) ?_ ?_
       rotate_left
       rintro ⟨b1, b2, b3, b4⟩ h
       obtain rfl := h.get
       have h := hK
       clear hK
       (try (simp only [Sum.elim_inl, Sum.elim_inr] at h))
       refine sw_gh ?_
       refine gh_sw ?_))
 | (with_reducible refine here_next ?_
    first | refine nxA (_, _, _, _, _, _, _, _) h | refine nxA (_, _, _, _, _, _, _, _, _, _, _) h)
 | (with_reducible refine here_meet ?_
    first | refine mtA (_, _, _, _) h | refine mtA (_, _, _, _, _, _, _) h | refine mtA (_, _, _, _, _, _, _, _) h)
 | with_reducible refine sw_seq ?_
 | with_reducible refine seqQ_ret ?_
 | with_reducible refine seqQ_exit ?_
 | ((with_reducible refine wp_ite ?_ ?_)
    all_goals (intro hc; (try (simp only [Bool.not_eq_true, Bool.not_eq_false] at hc)); simp only [hc]))
 | (with_reducible refine rskip (hs := ?_) (h2 := ?_)
    · simp only [lkd, lkb, reduceCtorEq, Nat.reduceEqDiff]; done)
 | (with_reducible refine ryes (hs := ?_) (h := ?_)
    · simp only [lkd, lkb, reduceCtorEq, Nat.reduceEqDiff]; done)
 | (with_reducible refine rno (hs := ?_) (h := ?_)
    · simp only [lkd, lkb, reduceCtorEq, Nat.reduceEqDiff, Bool.not_true, Bool.not_false]; done)
 | (with_reducible apply regW_guardN
    · simp only [dstOk, Nat.reduceLT]
    · rfl
    · simp only [lkd, lkb, reduceCtorEq, Nat.reduceEqDiff]; rfl
    all_goals (intro hc; (try (simp only [Bool.not_true, Bool.not_false] at hc))))
 | (with_reducible apply sw_cond
    · simp only [lkd, lkb, reduceCtorEq, Nat.reduceEqDiff]; rfl
    all_goals (intro hc; try (cases hc; done)))
 | ((first
     | ((with_reducible refine gh_ret ?_)
        revert h
        with_reducible refine some_elim ?_
        rintro rfl)
     | (with_reducible refine here_call ?_
        revert h
        with_reducible refine bind_elim ?_
        intro t ht h
        (first
          | ((first
              | ((with_reducible refine here_call (f := 65) ?_); refine call_dataE (c_impl_hasFunc ht) ?_ rfl ?_)
              | ((with_reducible refine here_call (f := 66) ?_); refine call_dataE (c_impl_prog_code ht) ?_ rfl ?_)
              | ((with_reducible refine here_call (f := 67) ?_); refine call_dataE (c_impl_prog_reached ht) ?_ rfl ?_)
              | ((with_reducible refine here_call (f := 69) ?_); refine call_dataE (c_impl_bareNop ht) ?_ rfl ?_)
              | ((with_reducible refine here_call (f := 70) ?_); refine call_dataE (c_impl_prog_slots ht) ?_ rfl ?_)
              | ((with_reducible refine here_call (f := 71) ?_); refine call_dataE (c_impl_prog_insRight ht) ?_ rfl ?_)
              | ((with_reducible refine here_call (f := 72) ?_); refine call_dataE (c_impl_Val_right ht) ?_ rfl ?_)
              | ((with_reducible refine here_call (f := 53) ?_); refine call_dataE (c_spec_l04Right ht) ?_ rfl ?_))
             · first | rfl | (simp; done))
          | ((with_reducible refine here_call (f := 68) ?_); refine call_autoE (c_impl_sameIns ht) ?_ ?_ ?_
             · simp only [hyb, hyd, GI2_lend, GFunc_lend, GProgram_lend, Gprog_lend, GMov_lend, GAsmIns_lend, GAsm_lend, LcIi64_lend, LGI2_lend, List.take_of_length_le, lkd, lkb, reduceCtorEq, Nat.reduceEqDiff, *]; first | rfl | done
             · first | rfl | (simp only [nbd, nbb, GI2_nb, GFunc_nb, GProgram_nb, Gprog_nb, GMov_nb, GAsmIns_nb, GAsm_nb, LcIi64_nb, LGI2_nb]; done)
             simp only [V.namesOf, V.namesOfL, List.foldl_cons, List.foldl_nil, List.nil_append, List.append_nil, List.cons_append])))
     | (with_reducible (first | refine ropD (h := ?_) | refine ropW (h := ?_))
        intro k hk)
     | skip)
    simp only [bn, lkb, evb, evd, Value.oneCell', setSeg, reduceCtorEq, Nat.reduceAdd, Nat.reduceMul, Nat.reduceSub, Nat.reduceLT, Nat.reduceLeDiff, Nat.reduceEqDiff, Int.reduceNeg, Int.reduceToNat, ty2, ty3, ty4, ty32, ty34, ty36, ty37, ty39, ty50, ty51, ty53, ty56, ty58, ty77, ty79, ty80, ty90, ty105, ty114, ty118, GAsm.cells, GAsmIns.cells, GFunc.cells, GI2.cells, GMov.cells, GProgram.cells, Gprog.cells, cI, cB, cS, cL, GI2_e, GFunc_e, GProgram_e, Gprog_e, GMov_e, GAsmIns_e, GAsm_e, LcIi64_e, LGI2_e, nilEqP, ne_eq, not_false_eq_true, not_true_eq_false, *]
    try (refine hk.use _ _ _ _ ?_; clear hk k))
 | fail)
  all_goals (try rfl)
  all_goals (try (simp; done))
  all_goals (try (simp_all; done))
def c_impl_prog_asmRight := @And.left _ _ ge9
def c_spec_l04Is := (@And.right _ _ ge9)
end Go.Proofs.YtfdgjiifeijjfaaGreatDoor