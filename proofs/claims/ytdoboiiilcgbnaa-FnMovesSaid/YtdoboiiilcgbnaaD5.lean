/- WHAT IS PROVED: contracts of functions of the program, each by a walk of its code. Conditions: none. -/
import Derived.Test.YtdoboiiilcgbnaaD4
namespace Go.Proofs.Ytdoboiiilcgbnaa
open Go.Proofs Go.Proofs.Ytdoboiiilcgbnaa.L
set_option maxHeartbeats 1000000
set_option linter.unusedSimpArgs false
set_option linter.unusedVariables false

def st3 (s : Src) (mo : Nat) (m : Mv) : Src × Mv := if oneV s 3 = true then (nS (nS s 3) mo, ⟨m.to, ⟨1, nV (nS s 3) mo⟩⟩) else (nS s 3, m)
def st8 (p : Src × Mv) : Src × Mv := if oneV p.1 8 = true then (numS (nS p.1 8), ⟨p.2.to, ⟨2, numV (nS p.1 8)⟩⟩) else (nS p.1 8, p.2)
def st40 (p : Src × Mv) : Src × Mv := if oneV p.1 40 = true then (anyS (nS p.1 40), ⟨p.2.to, anyV (nS p.1 40)⟩) else (nS p.1 40, p.2)
def st41 (p : Src × Mv) : Src × Mv := if oneV p.1 40 = true then (nS (nS p.1 40) 24, ⟨nV (nS p.1 40) 24 - 1, p.2.src⟩) else (nS p.1 40, p.2)
def genOne (s : Src) (k mo : Nat) : Src × Mv := st41 (st40 (st8 (st3 (nS s 4) mo ⟨k, ⟨1, ((k + 1) % mo : Nat)⟩⟩)))
def genStep (mo : Nat) (k : Nat) (s : Src) (l : List Mv) : Src × List Mv := if oneV s 4 = true then (nS s 4, l) else ((genOne s k mo).1, l ++ [(genOne s k mo).2])
def gen (mo : Nat) : Nat → Nat → Src → List Mv → Src × List Mv
  | 0, _, s, l => (s, l)
  | f + 1, k, s, l => gen mo f (k + 1) (genStep mo k s l).1 (genStep mo k s l).2
def swapL (l : List Mv) (i k : Nat) : List Mv := match l[i]?, l[k]? with
  | some a, some b => (l.set i b).set k a
  | _, _ => l
def shuf : Nat → Nat → Src → List Mv → Src × List Mv
  | 0, _, s, l => (s, l)
  | f + 1, i, s, l => shuf f (i + 1) (nS s l.length) (swapL l i (nV s l.length).toNat)
def moOf (s : Src) : Nat := 3 + (nV s 8).toNat
def movesOf (s : Src) : Src × List Mv :=
  let g := gen (moOf s) (moOf s) 0 (nS s 8) []
  shuf g.2.length 0 g.1 g.2
theorem good_st3 {s : Src} {mo : Nat} {m : Mv} (h : s.good) : (st3 s mo m).1.good := by unfold st3; split; exact good_n (good_n h); exact good_n h
theorem good_st8 {p : Src × Mv} (h : p.1.good) : (st8 p).1.good := by unfold st8; split; exact good_num (good_n h); exact good_n h
theorem good_st40 {p : Src × Mv} (h : p.1.good) : (st40 p).1.good := by unfold st40; split; exact good_any (good_n h); exact good_n h
theorem good_st41 {p : Src × Mv} (h : p.1.good) : (st41 p).1.good := by unfold st41; split; exact good_n (good_n h); exact good_n h
theorem good_gen {s : Src} {mo k : Nat} {l : List Mv} (h : s.good) : (genStep mo k s l).1.good := by
  unfold genStep
  split
  · exact good_n h
  · exact good_st41 (good_st40 (good_st8 (good_st3 (good_n h))))
theorem genStep_len (mo k : Nat) (s : Src) (l : List Mv) : (genStep mo k s l).2.length ≤ l.length + 1 := by
  unfold genStep
  split
  · simp
  · simp
theorem swapL_len (l : List Mv) (i k : Nat) : (swapL l i k).length = l.length := by
  unfold swapL
  split <;> simp
theorem swapL_eq {l : List Mv} {i k : Nat} {a b : Mv} (h1 : l[i]? = some a) (h2 : l[k]? = some b) : swapL l i k = (l.set i b).set k a := by
  unfold swapL
  rw [h1, h2]
theorem gen_step (mo f k : Nat) (s : Src) (l : List Mv) (h : k < f) : gen mo (f - k) k s l = gen mo (f - (k + 1)) (k + 1) (genStep mo k s l).1 (genStep mo k s l).2 := by
  rw [show f - k = (f - (k + 1)) + 1 by omega, gen]
theorem shuf_step (n i : Nat) (s : Src) (l : List Mv) (h : i < n) : shuf (n - i) i s l = shuf (n - (i + 1)) (i + 1) (nS s l.length) (swapL l i (nV s l.length).toNat) := by
  rw [show n - i = (n - (i + 1)) + 1 by omega, shuf]
theorem moOf_le (s : Src) : 3 ≤ moOf s ∧ moOf s ≤ 10 := by
  have := nV_range s (m := 8) (by omega) (by omega)
  unfold moOf
  omega

theorem c_spec_l01Src_l16Moves (s : Src) (h : s.good) : Con Try.prog 61 [.mp 0 4 0 0] [.o 4 [(s).cellsV]] (oRows 3 Mv.cells (movesOf s).2) [.o 4 [((movesOf s).1).cellsV]] := by
  have hw_x : DUM = 0 := rfl
  have hlk : DUM = 0 := rfl
  have hrem : DUM = 0 := rfl
  have hw24 : DUM = 0 := rfl
  have hs1 : DUM = 0 := rfl
  have hs2 : DUM = 0 := rfl
  have hmo : DUM = 0 := rfl
  have hmz : DUM = 0 := rfl
  have hw_z : DUM = 0 := rfl
  have hlz : DUM = 0 := rfl
  have h_a : DUM = 0 := rfl
  have h_b : DUM = 0 := rfl
  have hk0 : DUM = 0 := rfl
  have hk1 : DUM = 0 := rfl
  have h_c : DUM = 0 := rfl
  have hsw : DUM = 0 := rfl
  have hzn : DUM = 0 := rfl
  have hGB : ∀ z : Nat × Src × List Mv, Gh ((fun z : Nat × Src × List Mv => [(.s 7, some (.v (V.int (z.1 : Nat)))), (.s 0, some (.v (.mp 0 4 0 0))), (.r 0, some (.o 4 [z.2.1.cellsV])), (.s 4, some (.v (oRows 3 Mv.cells z.2.2)))]) z) 3000000 fun st' n' => st' = (fun z : Nat × Src × List Mv => [(.s 7, some (.v (V.int (z.1 : Nat)))), (.s 0, some (.v (.mp 0 4 0 0))), (.r 0, some (.o 4 [z.2.1.cellsV])), (.s 4, some (.v (.sl 3000000 3 0 z.2.2.length))), (.r 3000000, some (.o 3 (dd (z.2.2.map Mv.cells))))]) z ∧ n' = 3000064 := by
    intro z
    refine gh_nameSlot 4 ?_
    simp only [List.length_nil, List.take_length, List.take_nil, List.take_zero, List.drop_nil, List.map_nil, List.map_cons, resSlotP, nameSlotP, Prog.wp, Prog.wp_bind, Prog.bind, Prog.ofO, putSt, lk, Res.s.injEq, Res.r.injEq, reduceCtorEq, Nat.reduceEqDiff, if_true, if_false, resV, resV.go, resV.gol, resGo_dd, dd_length, dd_take, dd_drop, dd_get, List.drop_zero, take_len_map, List.length_map, Nat.zero_add, Nat.le_refl, true_and, and_true, and_self, nameAll, nameP, V.lin, D.lin]
    refine gh_too ?_
    simp only [SubL, putSt, lk, Res.s.injEq, Res.r.injEq, reduceCtorEq, Nat.reduceEqDiff, if_true, if_false]; repeat' (first | apply And.intro | rfl | trivial)
  have hmr := moOf_le s
  have h8 := nV_range s (m := 8) (by omega) (by omega)
  have hm3 : IntKind.i64.wrap (3 + nV s 8) = ((moOf s : Nat) : Int) := by rw [wrapIn (by omega) (by omega)]; unfold moOf; omega

  refine con_of_aw Try.func61 rfl Try.call61 (by simp [Try.ntmps61]) (by simp [V.inNs, V.inN]) (by simp [C.inN, V.inNss, V.inNs, V.inN, inNss_dd, Src.cellsV]) (by simp [V.inNs, V.inN]) (by simp [C.inN, V.inNss, V.inNs, V.inN, inNss_dd, Src.cellsV]) rfl ?_
  rw [Try.ntmps61, Try.results61]
  simp only [entryS, entryO, Nat.reduceAdd, List.length_nil, List.length_cons]
  repeat' (first
    | with_reducible refine aw_seq ?_
    | with_reducible refine aw_reg ?_
    | with_reducible refine aw_ret ?_
    | with_reducible refine aw_skip ?_
    | with_reducible refine aw_block ?_
    | with_reducible refine aw_exit ?_
    | with_reducible refine seqQ_normal ?_
    | with_reducible refine seqQ_ret ?_
    | with_reducible refine seqQ_exit ?_
    | with_reducible refine blockQ_normal ?_
    | with_reducible refine blockQ_ret ?_
    | with_reducible refine blockQ_this ?_
    | with_reducible refine blockQ_other (by decide) ?_
    | with_reducible refine regW_nil ?_
    | with_reducible refine aw_draw mixed ?_
    | (with_reducible refine regD_nil ?_
       refine ⟨by kernel_rfl, ?_⟩)
    | with_reducible refine retQ_ret ?_
    | with_reducible refine retQ_normal ?_
    | ((with_reducible refine aw_loopA 1000000 (by decide) (fun x : Nat × Src × List Mv => [(.s 5, some (.v (V.int (x.1 : Nat)))), (.s 0, some (.v (.mp 0 4 0 0))), (.s 3, some (.v (V.int (moOf s : Nat)))), (.r 0, some (.o 4 [x.2.1.cellsV])), (.s 4, some (.v (oRows 3 Mv.cells x.2.2)))]) (fun x => moOf s - x.1) (fun x => x.1 ≤ moOf s ∧ x.2.1.good ∧ x.2.2.length ≤ x.1 ∧ gen (moOf s) (moOf s - x.1) x.1 x.2.1 x.2.2 = gen (moOf s) (moOf s) 0 (nS s 8) []) ((0, nS s 8, [])) (by simp [slNL, C.inN, V.inN, V.inNs, V.inNss, inNss_dd, inNs_map_d, Src.cellsV]) ?_ ?_ ?_)
       · refine gh_resSlot 4 ?_
         simp only [List.length_nil, List.take_length, List.take_nil, List.take_zero, List.drop_nil, List.map_nil, List.map_cons, resSlotP, nameSlotP, Prog.wp, Prog.wp_bind, Prog.bind, Prog.ofO, putSt, lk, Res.s.injEq, Res.r.injEq, reduceCtorEq, Nat.reduceEqDiff, if_true, if_false, resV, resV.go, resV.gol, resGo_dd, dd_length, dd_take, dd_drop, dd_get, List.drop_zero, take_len_map, List.length_map, Nat.zero_add, Nat.le_refl, true_and, and_true, and_self, nameAll, nameP, V.lin, D.lin]
         refine gh_to ?_
         simp only [SubL, putSt, lk, Res.s.injEq, Res.r.injEq, reduceCtorEq, Nat.reduceEqDiff, if_true, if_false, oRows, List.map_nil, nat_zero]; repeat' (first | apply And.intro | rfl | trivial)
       · exact ⟨Nat.zero_le _, good_n h, Nat.le_refl _, rfl⟩
       intro x hJ
       have hg := hJ.2.1
       have hw_x := wrapS (show x.1 < 4611686018427387904 by omega)
       have hs1 : (x.2.2.length + 1) * 24 ≤ 35184372088832 := by omega
       have hs2 : x.2.2.length ≤ 35184372088831 := by omega
       have hmz : ((moOf s : Int) = 0) = False := eq_false (by omega)
       have hrem : Int.tmod ((x.1 + 1 : Nat) : Int) (moOf s : Int) = (((x.1 + 1) % moOf s : Nat) : Int) := rfl
       have hw24 : ∀ q : Src, IntKind.i64.wrap (nV q 24 - 1) = nV q 24 - 1 := fun q => by have := nV_range q (m := 24) (by omega) (by omega); exact wrapIn (by omega) (by omega)
       have hmo : (moOf s : Int) ≤ 4611686018427387904 := by omega
       rcases Nat.lt_or_ge x.1 (moOf s) with hlt | hge
       have hlk : ((x.1 : Int) < (moOf s : Int)) = True := eq_true (by omega)
       rotate_left
       have hlk : ((x.1 : Int) < (moOf s : Int)) = False := eq_false (by omega)
       have hend : gen (moOf s) (moOf s - x.1) x.1 x.2.1 x.2.2 = (x.2.1, x.2.2) := by rw [show moOf s - x.1 = 0 by omega, gen]
       rotate_left
)
    | ((with_reducible refine aw_loopG 3000000 3000064 (by decide) (fun z : Nat × Src × List Mv => [(.s 7, some (.v (V.int (z.1 : Nat)))), (.s 0, some (.v (.mp 0 4 0 0))), (.r 0, some (.o 4 [z.2.1.cellsV])), (.s 4, some (.v (oRows 3 Mv.cells z.2.2)))]) (fun z : Nat × Src × List Mv => [(.s 7, some (.v (V.int (z.1 : Nat)))), (.s 0, some (.v (.mp 0 4 0 0))), (.r 0, some (.o 4 [z.2.1.cellsV])), (.s 4, some (.v (.sl 3000000 3 0 z.2.2.length))), (.r 3000000, some (.o 3 (dd (z.2.2.map Mv.cells))))]) (fun z => x.2.2.length - z.1) (fun z => z.1 ≤ x.2.2.length ∧ z.2.1.good ∧ z.2.2.length = x.2.2.length ∧ shuf (x.2.2.length - z.1) z.1 z.2.1 z.2.2 = movesOf s) ((0, x.2.1, x.2.2)) (by simp [slNL, C.inN, V.inN, V.inNs, V.inNss, inNss_dd, inNs_map_d, Src.cellsV]) (fun _ => hGB _) ?_ ?_ ?_)
       · refine gh_to ?_
         simp only [SubL, putSt, lk, Res.s.injEq, Res.r.injEq, reduceCtorEq, Nat.reduceEqDiff, if_true, if_false, oRows, hsw, nat_zero]; repeat' (first | apply And.intro | rfl | trivial)
       · exact ⟨Nat.zero_le _, hg, rfl, by unfold movesOf; rw [← hJ.2.2.2, hend]; rfl⟩
       intro z hz
       have hgz := hz.2.1
       have hw_z := wrapS (show z.1 < 4611686018427387904 by omega)
       have hzl : z.2.2.length ≤ 10 := by omega
       have hzb : (z.2.2.length : Int) ≤ 4611686018427387904 := by omega
       rcases Nat.lt_or_ge z.1 x.2.2.length with hlt2 | hge2
       have hlz : (z.1 < z.2.2.length) = True := eq_true (by omega)
       have hnr := nV_range z.2.1 (m := (z.2.2.length : Int)) (by omega) (by omega)
       have hk0 := hnr.1
       have hk1 := hnr.2
       obtain ⟨a, h_a⟩ := list_get (l := z.2.2) (k := z.1) (by omega)
       obtain ⟨b, h_b⟩ := list_get (l := z.2.2) (k := (nV z.2.1 z.2.2.length).toNat) (by omega)
       obtain ⟨c, h_c⟩ := list_get (l := z.2.2.set z.1 b) (k := (nV z.2.1 z.2.2.length).toNat) (by rw [List.length_set]; omega)
       have hsw := swapL_eq h_a h_b
       have htk : (((z.2.2.set z.1 b).set (nV z.2.1 z.2.2.length).toNat a).map Mv.cells).take z.2.2.length = ((z.2.2.set z.1 b).set (nV z.2.1 z.2.2.length).toNat a).map Mv.cells := by rw [List.take_of_length_le (by simp)]
       rotate_left
       have hlz : (z.1 < z.2.2.length) = False := eq_false (by omega)
       have hend2 : shuf (x.2.2.length - z.1) z.1 z.2.1 z.2.2 = (z.2.1, z.2.2) := by rw [show x.2.2.length - z.1 = 0 by omega, shuf]
       rotate_left
)
    | ((with_reducible refine next_here ?_)
       refine gh_resSlot 4 ?_
       simp only [List.length_nil, List.take_length, List.take_nil, List.take_zero, List.drop_nil, List.map_nil, List.map_cons, resSlotP, nameSlotP, Prog.wp, Prog.wp_bind, Prog.bind, Prog.ofO, putSt, lk, Res.s.injEq, Res.r.injEq, reduceCtorEq, Nat.reduceEqDiff, if_true, if_false, resV, resV.go, resV.gol, resGo_dd, dd_length, dd_take, dd_drop, dd_get, List.drop_zero, take_len_map, List.length_map, Nat.zero_add, Nat.le_refl, true_and, and_true, and_self, nameAll, nameP, V.lin, D.lin]
       (with_reducible refine next_to ((x.1 + 1, (genStep (moOf s) x.1 x.2.1 x.2.2).1, (genStep (moOf s) x.1 x.2.1 x.2.2).2)) (by decide) (by simp [slNL, C.inN, V.inN, V.inNs, V.inNss, inNss_dd, inNs_map_d, Src.cellsV]) ?_ ?_ ?_)
       · (simp only [SubL, putSt, lk, Res.s.injEq, Res.r.injEq, reduceCtorEq, Nat.reduceEqDiff, if_true, if_false]; (try simp only [genStep, genOne, st3, st8, st40, st41, *]); (try simp [genStep, genOne, st3, st8, st40, st41, Mv.cells, *]))
       · first | omega | exact ⟨by omega, good_gen hJ.2.1, by have := genStep_len (moOf s) x.1 x.2.1 x.2.2; simp only; omega, by rw [← hJ.2.2.2, gen_step _ _ _ _ _ hlt]⟩
       · first | omega | exact ⟨by omega, good_gen hJ.2.1, by have := genStep_len (moOf s) x.1 x.2.1 x.2.2; simp only; omega, by rw [← hJ.2.2.2, gen_step _ _ _ _ _ hlt]⟩)
    | ((with_reducible refine next_here ?_)
       refine gh_resSlot 4 ?_
       simp only [List.length_nil, List.take_length, List.take_nil, List.take_zero, List.drop_nil, List.map_nil, List.map_cons, resSlotP, nameSlotP, Prog.wp, Prog.wp_bind, Prog.bind, Prog.ofO, putSt, lk, Res.s.injEq, Res.r.injEq, reduceCtorEq, Nat.reduceEqDiff, if_true, if_false, resV, resV.go, resV.gol, resGo_dd, dd_length, dd_take, dd_drop, dd_get, List.drop_zero, take_len_map, List.length_map, Nat.zero_add, Nat.le_refl, true_and, and_true, and_self, nameAll, nameP, V.lin, D.lin, List.length_set, htk]
       (with_reducible refine next_toG (fun z : Nat × Src × List Mv => [(.s 7, some (.v (V.int (z.1 : Nat)))), (.s 0, some (.v (.mp 0 4 0 0))), (.r 0, some (.o 4 [z.2.1.cellsV])), (.s 4, some (.v (oRows 3 Mv.cells z.2.2)))]) 3000000 ((z.1 + 1, nS z.2.1 z.2.2.length, swapL z.2.2 z.1 (nV z.2.1 z.2.2.length).toNat)) (by decide) (by simp [slNL, C.inN, V.inN, V.inNs, V.inNss, inNss_dd, inNs_map_d, Src.cellsV]) (fun _ => hGB _) ?_ ?_ ?_)
       · simp only [SubL, putSt, lk, Res.s.injEq, Res.r.injEq, reduceCtorEq, Nat.reduceEqDiff, if_true, if_false, oRows, hsw, nat_zero]; repeat' (first | apply And.intro | rfl | trivial)
       · first | omega | exact ⟨by omega, good_n hz.2.1, by rw [swapL_len]; exact hz.2.2.1, by rw [← hz.2.2.2, shuf_step _ _ _ _ hlt2]⟩
       · first | omega | exact ⟨by omega, good_n hz.2.1, by rw [swapL_len]; exact hz.2.2.1, by rw [← hz.2.2.2, shuf_step _ _ _ _ hlt2]⟩)
    | (first
        | ((with_reducible refine gh_ret ?_); simp only [RetW])
        | ((with_reducible apply call_ownp (f := 62))
           · simp only [putSt, lk, Res.s.injEq, Res.r.injEq, reduceCtorEq, Nat.reduceEqDiff, if_true, if_false]; rfl
           · with_reducible exact c_spec_l01Src_one _ _ (by repeat' (first | assumption | apply good_n | apply good_num | apply good_any)) (by first | assumption | omega)
           · rfl
           · first | rfl | simp only [C.ren, renLL_dd]
           · first | rfl | simp only [C.ren, renLL_dd])
        | ((with_reducible apply call_ownp (f := 63))
           · simp only [putSt, lk, Res.s.injEq, Res.r.injEq, reduceCtorEq, Nat.reduceEqDiff, if_true, if_false]; rfl
           · with_reducible exact c_n _ _ (by repeat' (first | assumption | apply good_n | apply good_num | apply good_any)) (by first | assumption | omega)
           · rfl
           · first | rfl | simp only [C.ren, renLL_dd]
           · first | rfl | simp only [C.ren, renLL_dd])
        | ((with_reducible apply call_ownp (f := 77))
           · simp only [putSt, lk, Res.s.injEq, Res.r.injEq, reduceCtorEq, Nat.reduceEqDiff, if_true, if_false]; rfl
           · with_reducible exact c_spec_l01Src_l02Num _ (by repeat' (first | assumption | apply good_n | apply good_num | apply good_any))
           · rfl
           · first | rfl | simp only [C.ren, renLL_dd]
           · first | rfl | simp only [C.ren, renLL_dd])
        | ((with_reducible apply call_ownp (f := 78))
           · simp only [putSt, lk, Res.s.injEq, Res.r.injEq, reduceCtorEq, Nat.reduceEqDiff, if_true, if_false]; rfl
           · with_reducible exact c_spec_l01Src_l10AnyVal _ (by repeat' (first | assumption | apply good_n | apply good_num | apply good_any))
           · rfl
           · first | rfl | simp only [C.ren, renLL_dd]
           · first | rfl | simp only [C.ren, renLL_dd])
        | (with_reducible apply regD_op
           · simp only [dstOk, Nat.reduceLT]
           · simp only [Nat.reduceAdd]; rfl
           intro k hk
           simp only [stepP])
        | (with_reducible apply regW_op
           · simp only [dstOk, Nat.reduceLT]
           · simp only [Nat.reduceAdd]; rfl
           intro k hk)
       try simp only [opC, opP, fetchN, fetchP, fetchAll, fetchO, Prog.bind, Prog.wp, Prog.wp_bind, lk, nameP, nameAll, Value.oneCell', putSt, stepP, putP, Res.s.injEq, Res.r.injEq, reduceCtorEq, V.lin, V.linL, D.lin, isNil, binP, unP, intBin, BinOp.isShift, Prog.ofO, true_and, and_true, Nat.reduceAdd, Nat.reduceMul, Nat.reduceSub, Nat.reduceLT, Nat.reduceLeDiff, Nat.reduceEqDiff, Nat.add_zero, Nat.zero_add, Nat.le_refl, if_true, if_false, ite_true, ite_false, Bool.false_eq_true, List.length_nil, List.length_cons, Bool.not_true, Bool.not_false, Bool.or_false, Bool.or_true, fieldAddrP, fieldP, indexAddrP, loadP, storeP, boxP, allocP, cellsP, asVal, setSeg, outP, TyK.field, TyK.agg, zeroRow, List.getElem?_cons_zero, List.getElem?_cons_succ, List.take_succ_cons, List.take_zero, List.drop_succ_cons, List.drop_zero, List.set_cons_zero, List.set_cons_succ, List.nil_append, List.cons_append, List.append_nil, List.map_cons, List.map_nil, V.ren, V.renL, List.forall_mem_cons, List.not_mem_nil, List.mem_cons, forall_eq_or_imp, implies_true, false_implies, forall_const, and_self, true_or, minmaxP, lenP, lenOf, lenStr, V.asInt, Int.toNat_natCast, List.length_map, List.getElem?_map, Option.map_some, Int.ofNat_lt, Int.natCast_nonneg, decide_true, decide_false, Int.cast_ofNat_Int, nat_lt_zero, nat_one, nat_zero, dd_length, dd_get, dd_take, dd_drop, resGo_dd, undd_dd, take_len_map, take_marks, List.length_replicate, sliceP, boundP, makeSliceP, convertP, appendP, rowsOfP, ontoP, sizeFits, V.rowSize, TyK.src, resV, resV.go, resV.gol, retP, retOne, retAll, resTo, objsAre, ty2, ty3, ty4, ty5, ty37, ty51, ty57, ty59, ty78, ty92, ty94, Mv.cells, Vl.eta, Mv.eta, hm3, Int.ofNat_lt, buildSliceP, chunks, List.replicate, List.flatten_cons, List.flatten_nil, Nat.zero_add, set_dd_cells, buildP, putParts, structPlaces, setSeg, binP, cellsEq, cellEq, Option.bind_some, Option.map_some, Option.bind_eq_bind, hw_x, hlk, hrem, hw24, hs1, hs2, hmo, hmz, hw_z, hlz, h_a, h_b, hk0, hk1, h_c, hsw, hzn]
       try (refine hk _ _ _ _ ?_; clear hk k))
    | (with_reducible apply regW_skip
       · simp only [dstOk, Nat.reduceLT]
       · rfl
       · simp only [putSt, lk, Res.s.injEq, Res.r.injEq, reduceCtorEq, Nat.reduceEqDiff, if_true, if_false]; done)
    | (with_reducible apply regW_yesN
       · simp only [dstOk, Nat.reduceLT]
       · rfl
       · simp only [putSt, lk, Res.s.injEq, Res.r.injEq, reduceCtorEq, Nat.reduceEqDiff, if_true, if_false]; done)
    | (with_reducible apply regW_no
       · simp only [dstOk, Nat.reduceLT]
       · rfl
       · simp only [putSt, lk, Res.s.injEq, Res.r.injEq, reduceCtorEq, Nat.reduceEqDiff, if_true, if_false, Bool.not_true, Bool.not_false]; done)
    | (with_reducible apply regW_guardN
       · simp only [dstOk, Nat.reduceLT]
       · rfl
       · simp only [putSt, lk, Res.s.injEq, Res.r.injEq, reduceCtorEq, Nat.reduceEqDiff, if_true, if_false]; rfl
       intro hb
       rotate_left
       intro hb)
    | (with_reducible apply aw_cond
       · simp only [putSt, lk, Res.s.injEq, Res.r.injEq, reduceCtorEq, Nat.reduceEqDiff, if_true, if_false]; rfl
       all_goals (intro hc; try (cases hc; done))))

  all_goals trace_state
  all_goals (try (first | (have e := hz.2.2.2; rw [hend2] at e; rw [← e]; done) | (have e := hz.2.2.2; rw [hend2] at e; rw [← e]; exact ⟨rfl, rfl⟩) | (have e := hz.2.2.2; rw [hend2] at e; rw [← e]; simp; done) | skip))
  all_goals (try rfl)
  all_goals (try (rw [Bool.eq_iff_iff]; simp; done))
  all_goals (try (rw [Bool.eq_iff_iff]; simp; omega))
  all_goals (try (intros; omega))
  all_goals (try grind)

end Go.Proofs.Ytdoboiiilcgbnaa
