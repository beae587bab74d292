/- WHAT IS PROVED: contracts of functions of the program, each by a walk of its code. Conditions: none. -/
import Derived.Test.YtdoboiiilcgbnaaD5
namespace Go.Proofs.Ytdoboiiilcgbnaa
open Go.Proofs Go.Proofs.Ytdoboiiilcgbnaa.L
set_option maxHeartbeats 1000000
set_option linter.unusedSimpArgs false
set_option linter.unusedVariables false

set_option maxRecDepth 100000

theorem good_genAll {mo : Nat} : ∀ (f k : Nat) {s : Src} (l : List Mv), s.good → (gen mo f k s l).1.good
  | 0, k, s, l, h => h
  | f + 1, k, s, l, h => good_genAll f (k + 1) _ (good_gen h)
theorem good_shuf : ∀ (f i : Nat) {s : Src} (l : List Mv), s.good → (shuf f i s l).1.good
  | 0, i, s, l, h => h
  | f + 1, i, s, l, h => good_shuf f (i + 1) _ (good_n h)
theorem good_moves {s : Src} (h : s.good) : (movesOf s).1.good := good_shuf _ _ _ (good_genAll _ _ _ (good_n h))
theorem gen_lenAll {mo : Nat} : ∀ (f k : Nat) (s : Src) (l : List Mv), (gen mo f k s l).2.length ≤ l.length + f
  | 0, k, s, l => by simp [gen]
  | f + 1, k, s, l => by
    have h1 := gen_lenAll (mo := mo) f (k + 1) (genStep mo k s l).1 (genStep mo k s l).2
    have h2 := genStep_len mo k s l
    rw [gen]
    omega
theorem shuf_len : ∀ (f i : Nat) (s : Src) (l : List Mv), (shuf f i s l).2.length = l.length
  | 0, i, s, l => rfl
  | f + 1, i, s, l => by rw [shuf, shuf_len f, swapL_len]
theorem moves_len (s : Src) : (movesOf s).2.length ≤ 10 := by
  unfold movesOf
  simp only
  rw [shuf_len]
  have h1 := gen_lenAll (mo := moOf s) (moOf s) 0 (nS s 8) []
  have h2 := moOf_le s
  simp only [List.length_nil] at h1
  omega
theorem good_src {l : List Int} (h : l.length ≤ 1048576) (hv : ∀ z ∈ l, 0 ≤ z ∧ z < 256) : (srcOf l).good := ⟨h, hv⟩
def locsGen : Nat → Src → List Int × Src
  | 0, s => ([], s)
  | n + 1, s => (numV s :: (locsGen n (numS s)).1, (locsGen n (numS s)).2)
theorem locsGen_len : ∀ (n : Nat) (s : Src), (locsGen n s).1.length = n
  | 0, s => rfl
  | n + 1, s => by simp [locsGen, locsGen_len n]
theorem good_lg : ∀ (n : Nat) {s : Src}, s.good → (locsGen n s).2.good
  | 0, s, h => h
  | n + 1, s, h => good_lg n (good_num h)
def locsN (n : Nat) (s : Src) : List Int × Src := (if oneV (locsGen n s).2 20 = true then (locsGen n s).1.drop 1 else (locsGen n s).1, nS (locsGen n s).2 20)
theorem good_locs {n : Nat} {s : Src} (h : s.good) : (locsN n s).2.good := good_n (good_lg n h)
theorem rep_get {acc : List Int} {x : Nat} (h : acc.length = x) (h2 : x < 22) : (acc ++ List.replicate (22 - x) (0 : Int))[x]? = some 0 := by
  rw [List.getElem?_append_right (by omega), List.getElem?_replicate, if_pos (by omega)]
theorem rep_set {acc : List Int} {x : Nat} {v : Int} (h : acc.length = x) (h2 : x < 22) : (acc ++ List.replicate (22 - x) (0 : Int)).set x v = (acc ++ [v]) ++ List.replicate (22 - (x + 1)) 0 := by
  rw [List.set_append_right _ _ (by omega), h, Nat.sub_self, show 22 - x = (22 - (x + 1)) + 1 by omega, List.replicate_succ, List.set_cons_zero]
  simp
theorem locs_fin {n : Nat} {s : Src} {x : Nat × Src × List Int} {b : Bool} (_ : s.good) (_ : n = 22) (hend : (x.2.2, x.2.1) = locsGen n s) (h3 : x.2.2.length = 22) (hx : x.1 = 22) (hc : oneV x.2.1 20 = b) :
    D.row Md.own 1 (if b then List.take 21 (List.drop 1 (List.map N1 (x.2.2 ++ List.replicate (22 - x.1) 0))) else List.take 22 (List.map N1 (x.2.2 ++ List.replicate (22 - x.1) 0))) = D.row Md.own 1 (List.map N1 (locsN n s).1) ∧
    some (C.o 4 [(nS x.2.1 20).cellsV]) = some (C.o 4 [(locsN n s).2.cellsV]) := by
  have h1 : (locsGen n s).1 = x.2.2 := (congrArg Prod.fst hend).symm
  have h2 : (locsGen n s).2 = x.2.1 := (congrArg Prod.snd hend).symm
  subst hc
  refine ⟨?_, by rw [locsN, h2]⟩
  rw [locsN, h1, h2, hx]
  cases hb : oneV x.2.1 20
  · simp [h3, List.take_of_length_le]
  · simp [h3, List.take_of_length_le]

theorem c_spec_l01Src_l16Locs (s : Src) (n : Nat) (h : s.good) (hn : n = 22) : Con Try.prog 64 [.mp 0 4 0 0] [.o 4 [(s).cellsV]] (oRows 1 N1 (locsN n s).1) [.o 4 [((locsN n s).2).cellsV]] := by
  have hw_x : DUM = 0 := rfl
  have hlx : DUM = 0 := rfl
  have hgt : DUM = 0 := rfl
  have hst : DUM = 0 := rfl
  have hln : DUM = 0 := rfl
  have hlt22 : DUM = 0 := rfl
  have hle22 : DUM = 0 := rfl
  have ofN22 : DUM = 0 := rfl

  refine con_of_aw Try.func64 rfl Try.call64 (by simp [Try.ntmps64]) (by simp [V.inNs, V.inN]) (by simp [C.inN, V.inNss, V.inNs, V.inN, inNss_dd, Src.cellsV]) (by simp [V.inNs, V.inN]) (by simp [C.inN, V.inNss, V.inNs, V.inN, inNss_dd, Src.cellsV]) rfl ?_
  rw [Try.ntmps64, Try.results64]
  simp only [entryS, entryO, Nat.reduceAdd, List.length_nil, List.length_cons]
  repeat' (first
    | with_reducible refine aw_seq ?_
    | with_reducible refine aw_reg ?_
    | with_reducible refine aw_ret ?_
    | with_reducible refine aw_skip ?_
    | with_reducible refine aw_block ?_
    | with_reducible refine aw_exit ?_
    | with_reducible refine seqQ_normal ?_
    | with_reducible refine seqQ_ret ?_
    | with_reducible refine seqQ_exit ?_
    | with_reducible refine blockQ_normal ?_
    | with_reducible refine blockQ_ret ?_
    | with_reducible refine blockQ_this ?_
    | with_reducible refine blockQ_other (by decide) ?_
    | with_reducible refine regW_nil ?_
    | with_reducible refine aw_draw mixed ?_
    | (with_reducible refine regD_nil ?_
       refine ⟨by kernel_rfl, ?_⟩)
    | with_reducible refine retQ_ret ?_
    | with_reducible refine retQ_normal ?_
    | ((with_reducible refine aw_loopA 1000000 (by decide) (fun x : Nat × Src × List Int => [(.s 4, some (.v (V.int (x.1 : Nat)))), (.s 0, some (.v (.mp 0 4 0 0))), (.r 0, some (.o 4 [x.2.1.cellsV])), (.s 3, some (.v (.sl 129 1 0 22))), (.r 129, some (.o 1 (dd ((x.2.2 ++ List.replicate (22 - x.1) (0 : Int)).map N1))))]) (fun x => 22 - x.1) (fun x => x.1 ≤ 22 ∧ x.2.1.good ∧ x.2.2.length = x.1 ∧ (x.2.2 ++ (locsGen (n - x.1) x.2.1).1, (locsGen (n - x.1) x.2.1).2) = locsGen n s) ((0, s, [])) (by simp [slNL, C.inN, V.inN, V.inNs, V.inNss, inNss_dd, inNs_map_d, Src.cellsV]) (gh_to ?_) ?_ ?_)
       · simp only [SubL, putSt, lk, Res.s.injEq, Res.r.injEq, reduceCtorEq, Nat.reduceEqDiff, if_true, if_false, hst]; repeat' (first | apply And.intro | rfl | trivial)
       · exact ⟨by omega, h, rfl, by simp⟩
       intro x hJ
       have hg := hJ.2.1
       have hw_x := wrapS (show x.1 < 4611686018427387904 by omega)
       rcases Nat.lt_or_ge x.1 22 with hlt | hge
       have hlx : ((x.1 : Int) < 22) = True := eq_true (by omega)
       have hgt := rep_get hJ.2.2.1 hlt
       have hst := rep_set (v := numV x.2.1) hJ.2.2.1 hlt
       have hln : x.2.2.length + (22 - x.1) = 22 := by omega
       have hlt22 : x.1 < x.2.2.length + (22 - x.1) := by omega
       rotate_left
       have hlx : ((x.1 : Int) < 22) = False := eq_false (by omega)
       have hx22 : x.1 = 22 := by omega
       have hend : (x.2.2, x.2.1) = locsGen n s := by rw [← hJ.2.2.2, show n - x.1 = 0 by omega]; simp [locsGen]
       have hln : x.2.2.length + (22 - x.1) = 22 := by omega
       rotate_left
)
    | ((with_reducible refine next_to ((x.1 + 1, numS x.2.1, x.2.2 ++ [numV x.2.1])) (by decide) (by simp [slNL, C.inN, V.inN, V.inNs, V.inNss, inNss_dd, inNs_map_d, Src.cellsV]) ?_ ?_ ?_)
       · simp only [SubL, putSt, lk, Res.s.injEq, Res.r.injEq, reduceCtorEq, Nat.reduceEqDiff, if_true, if_false, hst]; repeat' (first | apply And.intro | rfl | trivial)
       · first | omega | exact ⟨by omega, good_num hJ.2.1, by simp [hJ.2.2.1], by rw [← hJ.2.2.2, show n - x.1 = (n - (x.1 + 1)) + 1 by omega, locsGen]; simp⟩
       · first | omega | exact ⟨by omega, good_num hJ.2.1, by simp [hJ.2.2.1], by rw [← hJ.2.2.2, show n - x.1 = (n - (x.1 + 1)) + 1 by omega, locsGen]; simp⟩)
    | (first
        | ((with_reducible refine gh_ret ?_); simp only [RetW])
        | ((with_reducible apply call_ownp (f := 62))
           · simp only [putSt, lk, Res.s.injEq, Res.r.injEq, reduceCtorEq, Nat.reduceEqDiff, if_true, if_false]; rfl
           · with_reducible exact c_spec_l01Src_one _ _ (by repeat' (first | assumption | apply good_n | apply good_num | apply good_any | apply good_moves | apply good_locs | apply good_src)) (by first | assumption | omega)
           · rfl
           · first | rfl | simp only [C.ren, renLL_dd]
           · first | rfl | simp only [C.ren, renLL_dd])
        | ((with_reducible apply call_ownp (f := 77))
           · simp only [putSt, lk, Res.s.injEq, Res.r.injEq, reduceCtorEq, Nat.reduceEqDiff, if_true, if_false]; rfl
           · with_reducible exact c_spec_l01Src_l02Num _ (by repeat' (first | assumption | apply good_n | apply good_num | apply good_any | apply good_moves | apply good_locs | apply good_src))
           · rfl
           · first | rfl | simp only [C.ren, renLL_dd]
           · first | rfl | simp only [C.ren, renLL_dd])
        | (with_reducible apply regD_op
           · simp only [dstOk, Nat.reduceLT]
           · simp only [Nat.reduceAdd]; rfl
           intro k hk
           simp only [stepP])
        | (with_reducible apply regW_op
           · simp only [dstOk, Nat.reduceLT]
           · simp only [Nat.reduceAdd]; rfl
           intro k hk)
       try simp only [opC, opP, fetchN, fetchP, fetchAll, fetchO, Prog.bind, Prog.wp, Prog.wp_bind, lk, nameP, nameAll, Value.oneCell', putSt, stepP, putP, Res.s.injEq, Res.r.injEq, reduceCtorEq, V.lin, V.linL, D.lin, isNil, binP, unP, intBin, BinOp.isShift, Prog.ofO, true_and, and_true, Nat.reduceAdd, Nat.reduceMul, Nat.reduceSub, Nat.reduceLT, Nat.reduceLeDiff, Nat.reduceEqDiff, Nat.add_zero, Nat.zero_add, Nat.le_refl, if_true, if_false, ite_true, ite_false, Bool.false_eq_true, List.length_nil, List.length_cons, Bool.not_true, Bool.not_false, Bool.or_false, Bool.or_true, fieldAddrP, fieldP, indexAddrP, loadP, storeP, boxP, allocP, cellsP, asVal, setSeg, outP, TyK.field, TyK.agg, zeroRow, List.getElem?_cons_zero, List.getElem?_cons_succ, List.take_succ_cons, List.take_zero, List.drop_succ_cons, List.drop_zero, List.set_cons_zero, List.set_cons_succ, List.nil_append, List.cons_append, List.append_nil, List.map_cons, List.map_nil, V.ren, V.renL, List.forall_mem_cons, List.not_mem_nil, List.mem_cons, forall_eq_or_imp, implies_true, false_implies, forall_const, and_self, true_or, minmaxP, lenP, lenOf, lenStr, V.asInt, Int.toNat_natCast, List.length_map, List.getElem?_map, Option.map_some, Int.ofNat_lt, Int.natCast_nonneg, decide_true, decide_false, Int.cast_ofNat_Int, nat_lt_zero, nat_one, nat_zero, dd_length, dd_get, dd_take, dd_drop, resGo_dd, undd_dd, take_len_map, take_marks, List.length_replicate, sliceP, boundP, makeSliceP, convertP, appendP, rowsOfP, ontoP, sizeFits, V.rowSize, TyK.src, resV, resV.go, resV.gol, retP, retOne, retAll, resTo, objsAre, ty2, ty3, ty4, ty5, ty41, ty51, ty78, ty92, ty94, N1, dd_set1, Int.reduceToNat, Int.reduceLE, Int.reduceMul, List.length_append, hle22, Nat.zero_add, Int.toNat_natCast, Nat.reduceSub, Int.ofNat_le, Int.reduceLT, ofN22, Int.le_refl, hw_x, hlx, hgt, hst, hln, hlt22]
       try (refine hk _ _ _ _ ?_; clear hk k))
    | (with_reducible apply regW_skip
       · simp only [dstOk, Nat.reduceLT]
       · rfl
       · simp only [putSt, lk, Res.s.injEq, Res.r.injEq, reduceCtorEq, Nat.reduceEqDiff, if_true, if_false]; done)
    | (with_reducible apply regW_yesN
       · simp only [dstOk, Nat.reduceLT]
       · rfl
       · simp only [putSt, lk, Res.s.injEq, Res.r.injEq, reduceCtorEq, Nat.reduceEqDiff, if_true, if_false]; done)
    | (with_reducible apply regW_no
       · simp only [dstOk, Nat.reduceLT]
       · rfl
       · simp only [putSt, lk, Res.s.injEq, Res.r.injEq, reduceCtorEq, Nat.reduceEqDiff, if_true, if_false, Bool.not_true, Bool.not_false]; done)
    | (with_reducible apply regW_guardN
       · simp only [dstOk, Nat.reduceLT]
       · rfl
       · simp only [putSt, lk, Res.s.injEq, Res.r.injEq, reduceCtorEq, Nat.reduceEqDiff, if_true, if_false]; rfl
       intro hb
       rotate_left
       intro hb)
    | (with_reducible apply aw_cond
       · simp only [putSt, lk, Res.s.injEq, Res.r.injEq, reduceCtorEq, Nat.reduceEqDiff, if_true, if_false]; rfl
       all_goals (intro hc; try (cases hc; done))))

  all_goals (try (exact locs_fin h hn hend (by omega) hx22 hc))
  all_goals (try rfl)
  all_goals (try (rw [Bool.eq_iff_iff]; simp; done))
  all_goals (try (rw [Bool.eq_iff_iff]; simp; omega))
  all_goals (try (intros; omega))
  all_goals (try grind)

end Go.Proofs.Ytdoboiiilcgbnaa
