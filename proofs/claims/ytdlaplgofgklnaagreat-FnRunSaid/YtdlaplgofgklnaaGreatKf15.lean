/- WHAT IS PROVED: an abstract walker over the model, what some functions of the program answer, and laws of these answers. Conditions: none. -/
import Derived.Test.YtdlaplgofgklnaaGreatKf11
namespace Go.Proofs.YtdlaplgofgklnaaGreat
open Go.Proofs Go.Proofs.YtdlaplgofgklnaaGreat.L
set_option maxHeartbeats 8000000
set_option linter.unusedSimpArgs false
set_option linter.unusedVariables false
set_option maxRecDepth 100000
set_option linter.defProp false
def impl_world_effect_v02F0c2n1.a1 (k : Nat) (a1 : Grun) (a2 : (List Int)) (a3 : GI2) : Option ((GI2 × Grun × (List Int)) ⊕ (Grun × (List Int) × GI2)) :=
  cond ((decide (((a1.world.heap.length : Int)) ≥ 30))) (some (.inl ((⟨0, 14⟩ : GI2), a1, a2))) ((idx a2 0).bind fun m1 => (impl_in m1 0 50).bind fun t2 => cond ((!t2)) (some (.inl ((⟨0, 14⟩ : GI2), a1, a2))) (some (.inr (a1, a2, a3))))
def impl_world_effect_v02F0c2n1.a2 (k : Nat) (a1 : Grun) (a2 : (List Int)) (a3 : GI2) (a4 : Int) (a5 : Int) : Option (Grun × (List Int) × GI2 × Int × Int × Bool) :=
  cond ((a5 == 35)) (some (a1, a2, a3, a4, a5, true)) (cond ((a5 == 36)) (some (a1, a2, a3, a4, a5, true)) (some (a1, a2, a3, a4, a5, (a5 == 37))))
def impl_world_effect_v02F0c2n1 (k : Nat) (p0 : Grun) (p1 : Int) (p2 : (List Int)) : Option (GI2 × Grun × (List Int)) :=
  cond ((p1 == 34)) ((impl_world_effect_v02F0c2n1.a1 k p0 p2 ((⟨0, 0⟩ : GI2))).bind fun o1 => Sum.elim (fun o1l => gd (o1l.2.1.frames = p0.frames) (some (o1l.1, o1l.2.1, o1l.2.2))) (fun o1r => gd (o1r.1.frames = p0.frames) ((idx o1r.2.1 0).bind fun m3 => gd (0 ≤ m3 ∧ m3 * 8 ≤ 35184372088832 ∧ m3 ≤ 35184372088832) (gd ((o1r.1.world.heap.length + 1) * 24 ≤ 35184372088832 ∧ o1r.1.world.heap.length + 1 ≤ 35184372088832) (some ((⟨(((o1r.1.world.heap ++ [(List.replicate m3.toNat 0)])).length : Int), 0⟩ : GI2), (⟨o1r.1.k, p0.frames, (⟨(o1r.1.world.heap ++ [(List.replicate m3.toNat 0)]), o1r.1.world.out, o1r.1.world.fuel0, o1r.1.world.done, o1r.1.world.value, o1r.1.world.trap⟩ : Gworld)⟩ : Grun), o1r.2.1))))) o1) ((impl_world_effect_v02F0c2n1.a2 k p0 p2 ((⟨0, 0⟩ : GI2)) p1 p1).bind fun o2 => gd (o2.1.frames = p0.frames) (cond o2.2.2.2.2.2 ((idx o2.2.1 0).bind fun m4 => (impl_in m4 1 ((o2.1.world.heap.length : Int))).bind fun t5 => cond ((!t5)) (some ((⟨0, 13⟩ : GI2), (⟨o2.1.k, p0.frames, o2.1.world⟩ : Grun), o2.2.1)) ((idx o2.1.world.heap ((IntKind.i64.wrap (m4 - 1)))).bind fun m6 => cond ((o2.2.2.2.1 == 37)) (some ((⟨(m6.length : Int), 0⟩ : GI2), (⟨o2.1.k, p0.frames, (⟨(o2.1.world.heap.set (((IntKind.i64.wrap (m4 - 1))).toNat) m6), o2.1.world.out, o2.1.world.fuel0, o2.1.world.done, o2.1.world.value, o2.1.world.trap⟩ : Gworld)⟩ : Grun), o2.2.1)) ((idx o2.2.1 1).bind fun m7 => (impl_in m7 0 ((IntKind.i64.wrap (((m6.length : Int)) - 1)))).bind fun t8 => cond ((!t8)) (some ((⟨0, 12⟩ : GI2), (⟨o2.1.k, p0.frames, (⟨(o2.1.world.heap.set (((IntKind.i64.wrap (m4 - 1))).toNat) m6), o2.1.world.out, o2.1.world.fuel0, o2.1.world.done, o2.1.world.value, o2.1.world.trap⟩ : Gworld)⟩ : Grun), o2.2.1)) (cond ((o2.2.2.2.1 == 35)) ((idx m6 m7).bind fun m9 => some ((⟨m9, 0⟩ : GI2), (⟨o2.1.k, p0.frames, (⟨(o2.1.world.heap.set (((IntKind.i64.wrap (m4 - 1))).toNat) m6), o2.1.world.out, o2.1.world.fuel0, o2.1.world.done, o2.1.world.value, o2.1.world.trap⟩ : Gworld)⟩ : Grun), o2.2.1)) ((idx o2.2.1 2).bind fun m10 => (idx m6 m7).bind fun m11 => some ((⟨0, 0⟩ : GI2), (⟨o2.1.k, p0.frames, (⟨(o2.1.world.heap.set (((IntKind.i64.wrap (m4 - 1))).toNat) (m6.set m7.toNat m10)), o2.1.world.out, o2.1.world.fuel0, o2.1.world.done, o2.1.world.value, o2.1.world.trap⟩ : Gworld)⟩ : Grun), o2.2.1)))))) (cond ((o2.2.2.2.2.1 == 38)) ((idx o2.2.1 0).bind fun m12 => gd ((o2.1.world.out.length + 1) * 8 ≤ 35184372088832 ∧ o2.1.world.out.length + 1 ≤ 35184372088832) (some ((⟨0, 0⟩ : GI2), (⟨o2.1.k, p0.frames, (⟨o2.1.world.heap, (o2.1.world.out ++ [m12]), o2.1.world.fuel0, o2.1.world.done, o2.1.world.value, o2.1.world.trap⟩ : Gworld)⟩ : Grun), o2.2.1))) ((impl_arith k o2.2.2.2.1 o2.2.1).bind fun t13 => some (t13, (⟨o2.1.k, p0.frames, o2.1.world⟩ : Grun), o2.2.1)))))
theorem c_impl_world_effect_v02F0c2n1 : (∀ {k : Nat} {p0 : Grun} {p1 : Int} {p2 : (List Int)} {r : GI2 × Grun × (List Int)}, impl_world_effect_v02F0c2n1 k p0 p1 p2 = some r → Con Tryz.prog 81 [.mp 0 8 0 2, V.int p1, .sl 2 1 0 p2.length] [.o 8 [[.d (.ptr .bor [.row .bor 3 (Rw (GFunc.cells .bor) p0.k.program.funcs), .row .bor 1 (Rw (cL .bor 1 (cI .i64)) p0.k.h)]), .sl 1 4 0 p0.frames.length, .d (.row .own 1 (Rw (cL .own 1 (cI .i64)) p0.world.heap)), .d (.row .own 1 (Rw (cI .i64) p0.world.out)), V.int p0.world.fuel0, V.bool p0.world.done, V.int p0.world.value, V.int p0.world.trap]], .o 4 (dd (Rw (GFrame.cells .own) p0.frames)), .o 1 (dd (Rw (cI .i64) p2))] (.agg [V.int r.1.a, V.int r.1.b]) [.o 8 [[.d (.ptr .bor [.row .bor 3 (Rw (GFunc.cells .bor) r.2.1.k.program.funcs), .row .bor 1 (Rw (cL .bor 1 (cI .i64)) r.2.1.k.h)]), .sl 1 4 0 p0.frames.length, .d (.row .own 1 (Rw (cL .own 1 (cI .i64)) r.2.1.world.heap)), .d (.row .own 1 (Rw (cI .i64) r.2.1.world.out)), V.int r.2.1.world.fuel0, V.bool r.2.1.world.done, V.int r.2.1.world.value, V.int r.2.1.world.trap]], .o 4 (dd (Rw (GFrame.cells .own) p0.frames)), .o 1 (dd (Rw (cI .i64) r.2.2))]) := by
  all_goals intros
  all_goals rename_i h
  all_goals first
    | (with_reducible refine isf 81 ?_
       refine csw Tryz.func81 Tryz.call81 (by simp [Tryz.ntmps81]) (h := ?_)
       refine mkf 100091 fun hF => ?_
       rw [Tryz.ntmps81, Tryz.results81]
       unfold impl_world_effect_v02F0c2n1 at h)
  all_goals (replace h := Yes.mk h; simp only [entryS, entryO, Nat.reduceAdd, List.length_nil, List.length_cons])
  repeat' (first
 | ((with_reducible refine fi 100091 ?_ ?_); (focus (with_reducible assumption))
    first
    | (with_reducible refine here_reg (i := 5) ?_
       refine sw_gh ?_
       with_reducible apply gh_nameCell 0 2
       · simp only [lkd, lkb, reduceCtorEq, Nat.reduceEqDiff]; rfl
       · rfl
       simp only [List.set_cons_zero, List.set_cons_succ, Nat.reduceAdd, Rw_length]
       refine gh_sw ?_)
    | (with_reducible refine here_reg (i := 10) ?_
       refine sw_gh ?_
       with_reducible apply gh_nameCell 0 2
       · simp only [lkd, lkb, reduceCtorEq, Nat.reduceEqDiff]; rfl
       · rfl
       simp only [List.set_cons_zero, List.set_cons_succ, Nat.reduceAdd, Rw_length]
       refine gh_sw ?_)
    | (with_reducible refine here_reg (i := 22) ?_
       refine sw_gh ?_
       with_reducible apply gh_nameCell 0 3
       · simp only [lkd, lkb, reduceCtorEq, Nat.reduceEqDiff]; rfl
       · rfl
       simp only [List.set_cons_zero, List.set_cons_succ, Nat.reduceAdd, Rw_length]
       refine gh_sw ?_))
 | (with_reducible (first | refine sw_reg ?_ | refine sw_ret ?_ | refine sw_skip ?_ | refine sw_block ?_ | refine sw_exit ?_ | refine seqQ_normal ?_ | refine blockQ_normal ?_ | refine blockQ_ret ?_ | refine blockQ_this ?_ | refine blockQ_other (by decide) ?_ | refine regW_nil ?_ | refine sw_draw mixed ?_ | refine retQ_ret ?_ | refine retQ_normal ?_))
 | (with_reducible refine regD_nil ?_
    refine ⟨by kernel_rfl, ?_⟩)
 | (revert h; (first | ((with_reducible refine idx_elim ?_); intro m hm1 hm2 hm3 h; (try (simp only [Int.reduceToNat] at hm3)); (try (revert hm3; (with_reducible apply same_elim); (focus (with_reducible assumption)); rintro rfl)); (try (simp only [List.length_set, List.length_cons, List.length_nil, List.length_replicate, Nat.reduceAdd, Int.cast_ofNat_Int, Nat.zero_add, List.length_append] at hm2)); (try (simp only [*] at hm2))) | (with_reducible refine sidx_elim ?_; intro m hm1 hm3 h) | (with_reducible refine gd_elim ?_; intro hg h; try (have hg2 := hg.2; have hg := hg.1; (try (simp only [Nat.reduceLeDiff] at hg2)); (try (revert hg2; (with_reducible refine toNat_elim hg ?_); intro hg2 hg4)); try (have hg3 := hg2.2; have hg2 := hg2.1; (try (simp only [Nat.reduceLeDiff] at hg3))))) | (with_reducible refine condt_elim ?_ ?_; (focus (with_reducible assumption)); intro h) | (with_reducible refine condf_elim ?_ ?_; (focus (with_reducible assumption)); intro h)))
 | ((with_reducible first | refine pnR ?_ | refine pnE ?_ | refine pmR ?_ | refine pmE ?_)
    obtain rfl := h.get
    have h := hK
    clear hK
    (try (simp only [Sum.elim_inl, Sum.elim_inr] at h)))
 | ((with_reducible refine fi 100091 ?_ ?_); (focus (with_reducible assumption))
    first
    | (with_reducible refine here_join (a := (.seq (.region 3 _ _) _)) (b := (.seq (.region 5 _ _) _)) ?_
       revert h
       with_reducible refine bind_elimY ?_
       intro o1 h hK
       unfold impl_world_effect_v02F0c2n1.a1 at h
       refine sw_join (ι := Grun × (List Int) × GI2) 10000000 (fun x => [(.s 0, some (.v (.mp 0 8 0 2))), (.s 2, some (.v (.sl 2 1 0 x.2.1.length))), (.s 6, some (.v (.mp 3 2 0 0))), (.r 1, some (.o 4 (dd (Rw (GFrame.cells .own) x.1.frames)))), (.r 0, some (.o 8 [[.d (.ptr .bor [.row .bor 3 (Rw (GFunc.cells .bor) x.1.k.program.funcs), .row .bor 1 (Rw (cL .bor 1 (cI .i64)) x.1.k.h)]), .sl 1 4 0 x.1.frames.length, .d (.row .own 1 (Rw (cL .own 1 (cI .i64)) x.1.world.heap)), .d (.row .own 1 (Rw (cI .i64) x.1.world.out)), V.int x.1.world.fuel0, V.bool x.1.world.done, V.int x.1.world.value, V.int x.1.world.trap]])), (.r 2, some (.o 1 (dd (Rw (cI .i64) x.2.1)))), (.r 3, some (.o 2 [[V.int x.2.2.a, V.int x.2.2.b]]))]) (fun x => Yes (some (.inr x)) o1) ?_ ?_
       rotate_left
       rintro ⟨b1, b2, b3⟩ h
       obtain rfl := h.get
       have h := hK
       clear hK
       (try (simp only [Sum.elim_inl, Sum.elim_inr] at h))
       refine sw_gh ?_
       refine gh_sw ?_)
    | (with_reducible refine here_meet (N0 := 10000000) ?_
       (try (apply gh_resSl 0 2; (focus (simp only [lkd, lkb, reduceCtorEq, Nat.reduceEqDiff]; try rfl)); (focus rfl); simp only [rxb, Nat.reduceAdd, Nat.reduceLeDiff, rxd, lkd, lkb, reduceCtorEq, Nat.reduceEqDiff, *, mmb, GI2_Dset, GFunc_Dset, GProgram_Dset, GFrame_Dset, Gprog_Dset, Gworld_Dset, LcIi64_Dset]))
       refine mtA (_, _, _) h)
    | (with_reducible refine here_join (a := (.seq (.region 7 _ _) _)) (b := (.cond (.tmp 44) _ _)) ?_
       revert h
       with_reducible refine bind_elimY ?_
       intro o2 h hK
       unfold impl_world_effect_v02F0c2n1.a2 at h
       refine sw_join (ι := Grun × (List Int) × GI2 × Int × Int × Bool) 20000000 (fun x => [(.s 0, some (.v (.mp 0 8 0 2))), (.s 1, some (.v (V.int x.2.2.2.1))), (.s 2, some (.v (.sl 2 1 0 x.2.1.length))), (.s 6, some (.v (.mp 3 2 0 0))), (.s 8, some (.v (V.int x.2.2.2.2.1))), (.s 44, some (.v (V.bool x.2.2.2.2.2))), (.r 1, some (.o 4 (dd (Rw (GFrame.cells .own) x.1.frames)))), (.r 0, some (.o 8 [[.d (.ptr .bor [.row .bor 3 (Rw (GFunc.cells .bor) x.1.k.program.funcs), .row .bor 1 (Rw (cL .bor 1 (cI .i64)) x.1.k.h)]), .sl 1 4 0 x.1.frames.length, .d (.row .own 1 (Rw (cL .own 1 (cI .i64)) x.1.world.heap)), .d (.row .own 1 (Rw (cI .i64) x.1.world.out)), V.int x.1.world.fuel0, V.bool x.1.world.done, V.int x.1.world.value, V.int x.1.world.trap]])), (.r 2, some (.o 1 (dd (Rw (cI .i64) x.2.1)))), (.r 3, some (.o 2 [[V.int x.2.2.1.a, V.int x.2.2.1.b]]))]) (fun x => Yes (some (x)) o2) ?_ ?_
       rotate_left
       rintro ⟨b1, b2, b3, b4, b5, b6⟩ h
       obtain rfl := h.get
       have h := hK
       clear hK
       (try (simp only [Sum.elim_inl, Sum.elim_inr] at h))
       refine sw_gh ?_
       refine gh_sw ?_))
 | (with_reducible refine here_meet ?_
    first | refine mtA (_, _, _, _, _, _) h)
 | with_reducible refine sw_seq ?_
 | with_reducible refine seqQ_ret ?_
 | with_reducible refine seqQ_exit ?_
 | ((with_reducible refine fi 100091 ?_ ?_); (focus (with_reducible assumption))
    first
    | (with_reducible refine here_retw ?_
       with_reducible apply gh_resRow 20000000
       · simp only [lkd, lkb, reduceCtorEq, Nat.reduceEqDiff]; rfl
       · first | (simp only [Rw_length, List.length_set]; omega) | (simp [Rw_length]; omega)
       simp only [rxb, Nat.reduceAdd, Nat.reduceLeDiff, rxd, lkd, lkb, reduceCtorEq, Nat.reduceEqDiff, mmb, GI2_Dset, GFunc_Dset, GProgram_Dset, GFrame_Dset, Gprog_Dset, Gworld_Dset, LcIi64_Dset, *])
    | (with_reducible refine here_retw ?_
       with_reducible apply gh_resSl 0 2
       · simp only [lkd, lkb, reduceCtorEq, Nat.reduceEqDiff]; rfl
       · rfl
       simp only [rxb, Nat.reduceAdd, Nat.reduceLeDiff, rxd, lkd, lkb, reduceCtorEq, Nat.reduceEqDiff, *]))
 | ((with_reducible refine wp_ite ?_ ?_)
    all_goals (intro hc; (try (simp only [Bool.not_eq_true, Bool.not_eq_false] at hc)); simp only [hc]))
 | (with_reducible refine rskip (hs := ?_) (h2 := ?_)
    · simp only [lkd, lkb, reduceCtorEq, Nat.reduceEqDiff]; done)
 | (with_reducible refine ryes (hs := ?_) (h := ?_)
    · simp only [lkd, lkb, reduceCtorEq, Nat.reduceEqDiff]; done)
 | (with_reducible refine rno (hs := ?_) (h := ?_)
    · simp only [lkd, lkb, reduceCtorEq, Nat.reduceEqDiff, Bool.not_true, Bool.not_false]; done)
 | (with_reducible apply regW_guardN
    · simp only [dstOk, Nat.reduceLT]
    · rfl
    · simp only [lkd, lkb, reduceCtorEq, Nat.reduceEqDiff]; rfl
    all_goals (intro hc; (try (simp only [Bool.not_true, Bool.not_false] at hc))))
 | (with_reducible apply sw_cond
    · simp only [lkd, lkb, reduceCtorEq, Nat.reduceEqDiff]; rfl
    all_goals (intro hc; try (cases hc; done)))
 | ((first
     | ((with_reducible refine gh_ret ?_)
        revert h
        with_reducible refine some_elim ?_
        rintro rfl)
     | (with_reducible refine here_call ?_
        revert h
        with_reducible refine bind_elim ?_
        intro t ht h
        (first
          | ((with_reducible refine here_call (f := 110) ?_); refine call_dataE (c_impl_in ht) ?_ rfl ?_
             · first | rfl | (simp; done))
          | ((with_reducible refine here_call (f := 121) ?_); refine call_autoE (c_impl_arith ht) ?_ ?_ ?_
             · simp only [hyb, hyd, GI2_lend, GFunc_lend, GProgram_lend, GFrame_lend, Gprog_lend, Gworld_lend, LcIi64_lend, List.take_of_length_le, lkd, lkb, reduceCtorEq, Nat.reduceEqDiff, *]; first | rfl | done
             · first | rfl | (simp only [nbd, nbb, GI2_nb, GFunc_nb, GProgram_nb, GFrame_nb, Gprog_nb, Gworld_nb, LcIi64_nb]; done)
             simp only [V.namesOf, V.namesOfL, List.foldl_cons, List.foldl_nil, List.nil_append, List.append_nil, List.cons_append])))
     | (with_reducible (first | refine ropD (h := ?_) | refine ropW (h := ?_))
        intro k hk)
     | skip)
    simp only [bn, lkb, evb, evd, Value.oneCell', setSeg, reduceCtorEq, Nat.reduceAdd, Nat.reduceMul, Nat.reduceSub, Nat.reduceLT, Nat.reduceLeDiff, Nat.reduceEqDiff, Int.reduceNeg, Int.reduceToNat, ty2, ty3, ty4, ty27, ty28, ty104, ty120, ty163, GFrame.cells, GFunc.cells, GI2.cells, GProgram.cells, Gprog.cells, Gworld.cells, cI, cB, cS, cL, GI2_e, GFunc_e, GProgram_e, GFrame_e, Gprog_e, Gworld_e, LcIi64_e, buildP, buildSliceP, putParts, structPlaces, chunks, List.replicate, List.flatten_nil, List.flatten_cons, Option.bind_some, bb, LcIi64_b, nilEqP, ne_eq, not_false_eq_true, not_true_eq_false, *]
    try (refine hk.use _ _ _ _ ?_; clear hk k))
 | fail)
  all_goals (try rfl)
  all_goals (try (simp; done))
  all_goals (try (simp_all; done))
end Go.Proofs.YtdlaplgofgklnaaGreat