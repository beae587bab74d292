/- WHAT IS PROVED: an abstract walker over the model, what some functions of the program answer, and laws of these answers, one behind the other. Conditions: none. -/
import Derived.Test.YtdlaplgofgklnaaKl5
namespace Go.Proofs.Ytdlaplgofgklnaa
open Go.Proofs Go.Proofs.Ytdlaplgofgklnaa.L
set_option maxHeartbeats 1000000
set_option linter.unusedSimpArgs false
set_option linter.unusedVariables false
set_option maxRecDepth 100000

def impl_prog_doms.l1 : Nat → Gprog → Int → Int → Int → Int → Option (Gprog × Int × Int)
  | 0, _, _, _, _, _ => none
  | k + 1, a1, a2, a3, a4, a5 => cond ((decide (a5 < a4))) ((impl_prog_reached a1 a2 a5).bind fun t2 => cond t2 (gd (0 ≤ a5) (impl_prog_doms.l1 k a1 a2 ((ior .i64 a3 ((ishl .i64 1 a5)))) a4 ((IntKind.i64.wrap (a5 + 1))))) (impl_prog_doms.l1 k a1 a2 a3 a4 ((IntKind.i64.wrap (a5 + 1))))) (some (a1, a2, a3))

def impl_prog_doms.l2 : Nat → (List Int) → Gprog → Int → Int → Int → Int → Option ((List Int) × Gprog × Int × Int)
  | 0, _, _, _, _, _, _ => none
  | k + 1, a1, a2, a3, a4, a5, a6 => cond ((decide (a6 < a5))) (gd (0 ≤ a6) (cond ((((iand .i64 ((ishr .i64 a4 a6)) 1)) == 1)) ((idx a1 a6).bind fun m4 => impl_prog_doms.l2 k ((a1.set a6.toNat a4)) a2 a3 a4 a5 ((IntKind.i64.wrap (a6 + 1)))) (impl_prog_doms.l2 k a1 a2 a3 a4 a5 ((IntKind.i64.wrap (a6 + 1)))))) (some (a1, a2, a3, a4))

def impl_prog_doms.l6 : Nat → (List Int) → (List Int) → Gprog → Int → Int → Bool → Int → Int → Int → Int → Option ((List Int) × Gprog × Int × Int × Bool × Int × Int)
  | 0, _, _, _, _, _, _, _, _, _, _ => none
  | k + 1, a1, a2, a3, a4, a5, a6, a7, a8, a9, a10 => cond ((decide (a10 < a9))) ((idx a2 a10).bind fun m7 => (idx a1 m7).bind fun m8 => impl_prog_doms.l6 k a1 a2 a3 a4 a5 a6 a7 ((iand .i64 a8 m8)) a9 ((IntKind.i64.wrap (a10 + 1)))) (some (a1, a3, a4, a5, a6, a7, a8))

def impl_prog_doms.a5 (k : Nat) (a1 : (List Int)) (a2 : Gprog) (a3 : Int) (a4 : Int) (a5 : Bool) (a6 : Int) : Option ((List Int) × Gprog × Int × Int × Bool × Int) :=
  gd (0 ≤ a6) (cond ((((iand .i64 ((ishr .i64 a4 a6)) 1)) == 0)) (some (a1, a2, a3, a4, a5, a6)) ((impl_prog_preds k a2 a3 a6).bind fun t6 => (impl_prog_doms.l6 k a1 t6 a2 a3 a4 a5 a6 a4 ((t6.length : Int)) 0).bind fun o6 => gd (0 ≤ o6.2.2.2.2.2.1) (cond o6.2.2.2.2.1 ((idx o6.1 o6.2.2.2.2.2.1).bind fun m9 => some ((o6.1.set o6.2.2.2.2.2.1.toNat ((ior .i64 o6.2.2.2.2.2.2 ((ishl .i64 1 o6.2.2.2.2.2.1))))), o6.2.1, o6.2.2.1, o6.2.2.2.1, true, o6.2.2.2.2.2.1)) ((idx o6.1 o6.2.2.2.2.2.1).bind fun m10 => some ((o6.1.set o6.2.2.2.2.2.1.toNat ((ior .i64 o6.2.2.2.2.2.2 ((ishl .i64 1 o6.2.2.2.2.2.1))))), o6.2.1, o6.2.2.1, o6.2.2.2.1, (((ior .i64 o6.2.2.2.2.2.2 ((ishl .i64 1 o6.2.2.2.2.2.1)))) != m10), o6.2.2.2.2.2.1)))))

def impl_prog_doms.l4 : Nat → (List Int) → Gprog → Int → Int → Bool → Int → Option ((List Int) × Gprog × Int × Int × Bool)
  | 0, _, _, _, _, _, _ => none
  | k + 1, a1, a2, a3, a4, a5, a6 => cond ((decide (a6 < ((a1.length : Int))))) ((impl_prog_doms.a5 k a1 a2 a3 a4 a5 a6).bind fun o5 => impl_prog_doms.l4 k o5.1 o5.2.1 o5.2.2.1 o5.2.2.2.1 o5.2.2.2.2.1 ((IntKind.i64.wrap (o5.2.2.2.2.2 + 1)))) (some (a1, a2, a3, a4, a5))

def impl_prog_doms.l3 : Nat → (List Int) → Gprog → Int → Int → Bool → Option ((List Int))
  | 0, _, _, _, _, _ => none
  | k + 1, a1, a2, a3, a4, a5 => cond a5 ((impl_prog_doms.l4 k a1 a2 a3 a4 false 1).bind fun o4 => impl_prog_doms.l3 k o4.1 o4.2.1 o4.2.2.1 o4.2.2.2.1 o4.2.2.2.2) (some (a1))

def impl_prog_doms (k : Nat) (p0 : Gprog) (p1 : Int) : Option ((List Int)) :=
  (impl_prog_code p0 p1).bind fun t1 => (impl_prog_doms.l1 k p0 p1 0 ((t1.length : Int)) 0).bind fun o1 => (impl_prog_code o1.1 o1.2.1).bind fun t3 => gd (0 ≤ (t3.length : Int) ∧ ((t3.length : Int)) * 8 ≤ 35184372088832 ∧ (t3.length : Int) ≤ 35184372088832) ((impl_prog_doms.l2 k ((List.replicate t3.length 0)) o1.1 o1.2.1 o1.2.2 ((t3.length : Int)) 0).bind fun o2 => (idx o2.1 0).bind fun m5 => (impl_prog_doms.l3 k ((o2.1.set 0 1)) o2.2.1 o2.2.2.1 o2.2.2.2 true).bind fun o3 => some o3)

theorem c_impl_prog_doms {k : Nat} {p0 : Gprog} {p1 : Int} {r : (List Int)} (h : impl_prog_doms k p0 p1 = some r) : Con Try.prog 45 [.d (.ptr .bor [.row .bor 3 (Rw (GFunc.cells .bor) p0.program.funcs), .row .bor 1 (Rw (cL .bor 1 (cI .i64)) p0.h)]), V.int p1] [] (.d (.row .own 1 (Rw (cI .i64) r))) [] := by
  refine con_of_sw Try.func45 rfl Try.call45 (by simp [Try.ntmps45]) (by simp [V.inNs, V.inN]) (by simp [C.inN, V.inNss, V.inNs, V.inN, inNss_dd]) (by simp [V.inNs, V.inN]) (by simp [C.inN, V.inNss, V.inNs, V.inN, inNss_dd]) rfl ?_
  rw [Try.ntmps45, Try.results45]
  unfold impl_prog_doms at h
  replace h := Yes.mk h
  simp only [entryS, entryO, Nat.reduceAdd, List.length_nil, List.length_cons]
  repeat' (first
    | with_reducible refine sw_reg ?_
    | with_reducible refine sw_ret ?_
    | with_reducible refine sw_skip ?_
    | with_reducible refine sw_block ?_
    | with_reducible refine sw_exit ?_
    | with_reducible refine seqQ_normal ?_
    | with_reducible refine blockQ_normal ?_
    | with_reducible refine blockQ_ret ?_
    | with_reducible refine blockQ_this ?_
    | with_reducible refine blockQ_other (by decide) ?_
    | with_reducible refine regW_nil ?_
    | with_reducible refine sw_draw mixed ?_
    | (with_reducible refine regD_nil ?_
       refine ⟨by kernel_rfl, ?_⟩)
    | with_reducible refine retQ_ret ?_
    | with_reducible refine retQ_normal ?_
    | (revert h; (first | ((with_reducible refine idx_elim ?_); intro m hm1 hm2 hm3 h; (try (simp only [Int.reduceToNat] at hm3)); (try (revert hm3; (with_reducible apply same_elim); (focus (with_reducible assumption)); rintro rfl)); (try (simp only [List.length_set, List.length_cons, List.length_nil, List.length_replicate, Nat.reduceAdd, Int.cast_ofNat_Int, Nat.zero_add, List.length_append] at hm2))) | (with_reducible refine sidx_elim ?_; intro m hm1 hm3 h) | (with_reducible refine gd_elim ?_; intro hg h; try (have hg2 := hg.2; have hg := hg.1; (try (simp only [Nat.reduceLeDiff] at hg2)); (try (revert hg2; (with_reducible refine toNat_elim hg ?_); intro hg2 hg4)); try (have hg3 := hg2.2; have hg2 := hg2.1; (try (simp only [Nat.reduceLeDiff] at hg3))))) | fail))
    | ((first | with_reducible refine seqQ_ret (K := (fun st1 n1 => Gh st1 n1 (NextS _ 60000000 _ _ _ _))) ?_ | with_reducible refine seqQ_exit (K := (fun st1 n1 => Gh st1 n1 (NextS _ 60000000 _ _ _ _))) ?_)
       obtain rfl := h.get
       have h := hK6
       (try (simp only [Sum.elim_inl, Sum.elim_inr] at h)))
    | ((first | with_reducible refine seqQ_ret (K := (fun st1 n1 => Gh st1 n1 (MeetA _ 50000000 _ _))) ?_ | with_reducible refine seqQ_exit (K := (fun st1 n1 => Gh st1 n1 (MeetA _ 50000000 _ _))) ?_)
       obtain rfl := h.get
       have h := hK5
       (try (simp only [Sum.elim_inl, Sum.elim_inr] at h)))
    | ((first | with_reducible refine seqQ_ret (K := (fun st1 n1 => Gh st1 n1 (NextS _ 40000000 _ _ _ _))) ?_ | with_reducible refine seqQ_exit (K := (fun st1 n1 => Gh st1 n1 (NextS _ 40000000 _ _ _ _))) ?_)
       obtain rfl := h.get
       have h := hK4
       (try (simp only [Sum.elim_inl, Sum.elim_inr] at h)))
    | ((first | with_reducible refine seqQ_ret (K := (fun st1 n1 => Gh st1 n1 (NextS _ 30000000 _ _ _ _))) ?_ | with_reducible refine seqQ_exit (K := (fun st1 n1 => Gh st1 n1 (NextS _ 30000000 _ _ _ _))) ?_)
       obtain rfl := h.get
       have h := hK3
       (try (simp only [Sum.elim_inl, Sum.elim_inr] at h)))
    | ((first | with_reducible refine seqQ_ret (K := (fun st1 n1 => Gh st1 n1 (NextS _ 20000000 _ _ _ _))) ?_ | with_reducible refine seqQ_exit (K := (fun st1 n1 => Gh st1 n1 (NextS _ 20000000 _ _ _ _))) ?_)
       obtain rfl := h.get
       have h := hK2
       (try (simp only [Sum.elim_inl, Sum.elim_inr] at h)))
    | ((first | with_reducible refine seqQ_ret (K := (fun st1 n1 => Gh st1 n1 (NextS _ 10000000 _ _ _ _))) ?_ | with_reducible refine seqQ_exit (K := (fun st1 n1 => Gh st1 n1 (NextS _ 10000000 _ _ _ _))) ?_)
       obtain rfl := h.get
       have h := hK1
       (try (simp only [Sum.elim_inl, Sum.elim_inr] at h)))
    | (with_reducible refine here_loop (c := (.seq (.region 25 _ _) _)) ?_
       skip
       revert h
       with_reducible refine bind_elimY ?_
       intro o6 h hK6
       refine sw_loop (ι := Nat × (List Int) × (List Int) × Gprog × Int × Int × Bool × Int × Int × Int × Int) 60000000 (by decide) (fun x : Nat × (List Int) × (List Int) × Gprog × Int × Int × Bool × Int × Int × Int × Int => [(.s 0, some (.v (.d (.ptr .bor [.row .bor 3 (Rw (GFunc.cells .bor) x.2.2.2.1.program.funcs), .row .bor 1 (Rw (cL .bor 1 (cI .i64)) x.2.2.2.1.h)])))), (.s 1, some (.v (V.int x.2.2.2.2.1))), (.s 5, some (.v (V.int x.2.2.2.2.2.1))), (.s 7, some (.v (.sl 10000384 1 0 x.2.1.length))), (.s 9, some (.v (V.bool x.2.2.2.2.2.2.1))), (.s 10, some (.v (V.int x.2.2.2.2.2.2.2.1))), (.s 11, some (.v (V.int x.2.2.2.2.2.2.2.2.1))), (.s 68, some (.v (.sl 40000896 1 0 x.2.2.1.length))), (.s 69, some (.v (V.int x.2.2.2.2.2.2.2.2.2.1))), (.s 70, some (.v (V.int x.2.2.2.2.2.2.2.2.2.2))), (.r 10000384, some (.o 1 (dd (Rw (cI .i64) x.2.1)))), (.r 40000896, some (.o 1 (dd (Rw (cI .i64) x.2.2.1))))]) (fun x => x.1) (fun x => Yes (impl_prog_doms.l6 x.1 x.2.1 x.2.2.1 x.2.2.2.1 x.2.2.2.2.1 x.2.2.2.2.2.1 x.2.2.2.2.2.2.1 x.2.2.2.2.2.2.2.1 x.2.2.2.2.2.2.2.2.1 x.2.2.2.2.2.2.2.2.2.1 x.2.2.2.2.2.2.2.2.2.2) o6) (_, _, _, _, _, _, _, _, _, _, _) ?_ h ?_ ?_
       · exact (by simp [slNL, C.inN, V.inN, V.inNs, V.inNss, inNss_dd, inNs_map_d])
       · simp only [SubL, putSt, lk, Res.s.injEq, Res.r.injEq, reduceCtorEq, Nat.reduceEqDiff, if_true, if_false, List.length_set, List.length_replicate]; repeat' (first | apply And.intro | rfl | trivial | (simp only [*]; done))
       rintro ⟨_ | k, a1, a2, a3, a4, a5, a6, a7, a8, a9, a10⟩ h
       · simp only [impl_prog_doms.l6] at h; exact h.none
       simp only [impl_prog_doms.l6] at h
)
    | (with_reducible refine here_next (N0 := 60000000) ?_
       skip
       refine nexts_to (_, _, _, _, _, _, _, _, _, _, _) (by decide) ?_ (Nat.lt_succ_self _) h ?_
       · exact (by simp [slNL, C.inN, V.inN, V.inNs, V.inNss, inNss_dd, inNs_map_d])
       · simp only [SubL, putSt, lk, Res.s.injEq, Res.r.injEq, reduceCtorEq, Nat.reduceEqDiff, if_true, if_false, List.length_set, List.length_replicate]; repeat' (first | apply And.intro | rfl | trivial | (simp only [*]; done)))
    | (with_reducible refine here_join (a := (.block 7 _)) (b := (.region 21 _ _)) ?_
       skip
       revert h
       with_reducible refine bind_elimY ?_
       intro o5 h hK5
       unfold impl_prog_doms.a5 at h
       refine sw_join (ι := (List Int) × Gprog × Int × Int × Bool × Int) 50000000 (fun x : (List Int) × Gprog × Int × Int × Bool × Int => [(.s 0, some (.v (.d (.ptr .bor [.row .bor 3 (Rw (GFunc.cells .bor) x.2.1.program.funcs), .row .bor 1 (Rw (cL .bor 1 (cI .i64)) x.2.1.h)])))), (.s 1, some (.v (V.int x.2.2.1))), (.s 5, some (.v (V.int x.2.2.2.1))), (.s 7, some (.v (.sl 10000384 1 0 x.1.length))), (.s 9, some (.v (V.bool x.2.2.2.2.1))), (.s 10, some (.v (V.int x.2.2.2.2.2))), (.r 10000384, some (.o 1 (dd (Rw (cI .i64) x.1))))]) (fun x => Yes (some (x)) o5) ?_ ?_
       rotate_left
       rintro ⟨b1, b2, b3, b4, b5, b6⟩ h
       obtain rfl := h.get
       have h := hK5
       (try (simp only [Sum.elim_inl, Sum.elim_inr] at h))
       refine sw_gh ?_
       refine gh_sw ?_
       skip)
    | (with_reducible refine here_meet (N0 := 50000000) ?_
       skip
       refine meet_to (_, _, _, _, _, _) (by decide) ?_ h ?_
       · exact (by simp [slNL, C.inN, V.inN, V.inNs, V.inNss, inNss_dd, inNs_map_d])
       · simp only [SubL, putSt, lk, Res.s.injEq, Res.r.injEq, reduceCtorEq, Nat.reduceEqDiff, if_true, if_false, List.length_set, List.length_replicate]; repeat' (first | apply And.intro | rfl | trivial | (simp only [*]; done)))
    | (with_reducible refine here_loop (c := (.seq (.seq (.region 20 _ _) _) _)) ?_
       skip
       revert h
       with_reducible refine bind_elimY ?_
       intro o4 h hK4
       refine sw_loop (ι := Nat × (List Int) × Gprog × Int × Int × Bool × Int) 40000000 (by decide) (fun x : Nat × (List Int) × Gprog × Int × Int × Bool × Int => [(.s 0, some (.v (.d (.ptr .bor [.row .bor 3 (Rw (GFunc.cells .bor) x.2.2.1.program.funcs), .row .bor 1 (Rw (cL .bor 1 (cI .i64)) x.2.2.1.h)])))), (.s 1, some (.v (V.int x.2.2.2.1))), (.s 5, some (.v (V.int x.2.2.2.2.1))), (.s 7, some (.v (.sl 10000384 1 0 x.2.1.length))), (.s 9, some (.v (V.bool x.2.2.2.2.2.1))), (.s 10, some (.v (V.int x.2.2.2.2.2.2))), (.r 10000384, some (.o 1 (dd (Rw (cI .i64) x.2.1))))]) (fun x => x.1) (fun x => Yes (impl_prog_doms.l4 x.1 x.2.1 x.2.2.1 x.2.2.2.1 x.2.2.2.2.1 x.2.2.2.2.2.1 x.2.2.2.2.2.2) o4) (_, _, _, _, _, _, _) ?_ h ?_ ?_
       · exact (by simp [slNL, C.inN, V.inN, V.inNs, V.inNss, inNss_dd, inNs_map_d])
       · simp only [SubL, putSt, lk, Res.s.injEq, Res.r.injEq, reduceCtorEq, Nat.reduceEqDiff, if_true, if_false, List.length_set, List.length_replicate]; repeat' (first | apply And.intro | rfl | trivial | (simp only [*]; done))
       rintro ⟨_ | k, a1, a2, a3, a4, a5, a6⟩ h
       · simp only [impl_prog_doms.l4] at h; exact h.none
       simp only [impl_prog_doms.l4] at h
)
    | (with_reducible refine here_next (N0 := 40000000) ?_
       skip
       refine nexts_to (_, _, _, _, _, _, _) (by decide) ?_ (Nat.lt_succ_self _) h ?_
       · exact (by simp [slNL, C.inN, V.inN, V.inNs, V.inNss, inNss_dd, inNs_map_d])
       · simp only [SubL, putSt, lk, Res.s.injEq, Res.r.injEq, reduceCtorEq, Nat.reduceEqDiff, if_true, if_false, List.length_set, List.length_replicate]; repeat' (first | apply And.intro | rfl | trivial | (simp only [*]; done)))
    | (with_reducible refine here_loop (c := (.seq (.seq (.region 17 _ _) _) _)) ?_
       skip
       revert h
       with_reducible refine bind_elimY ?_
       intro o3 h hK3
       refine sw_loop (ι := Nat × (List Int) × Gprog × Int × Int × Bool) 30000000 (by decide) (fun x : Nat × (List Int) × Gprog × Int × Int × Bool => [(.s 0, some (.v (.d (.ptr .bor [.row .bor 3 (Rw (GFunc.cells .bor) x.2.2.1.program.funcs), .row .bor 1 (Rw (cL .bor 1 (cI .i64)) x.2.2.1.h)])))), (.s 1, some (.v (V.int x.2.2.2.1))), (.s 5, some (.v (V.int x.2.2.2.2.1))), (.s 7, some (.v (.sl 10000384 1 0 x.2.1.length))), (.s 9, some (.v (V.bool x.2.2.2.2.2))), (.r 10000384, some (.o 1 (dd (Rw (cI .i64) x.2.1))))]) (fun x => x.1) (fun x => Yes (impl_prog_doms.l3 x.1 x.2.1 x.2.2.1 x.2.2.2.1 x.2.2.2.2.1 x.2.2.2.2.2) o3) (_, _, _, _, _, _) ?_ h ?_ ?_
       · exact (by simp [slNL, C.inN, V.inN, V.inNs, V.inNss, inNss_dd, inNs_map_d])
       · simp only [SubL, putSt, lk, Res.s.injEq, Res.r.injEq, reduceCtorEq, Nat.reduceEqDiff, if_true, if_false, List.length_set, List.length_replicate]; repeat' (first | apply And.intro | rfl | trivial | (simp only [*]; done))
       rintro ⟨_ | k, a1, a2, a3, a4, a5⟩ h
       · simp only [impl_prog_doms.l3] at h; exact h.none
       simp only [impl_prog_doms.l3] at h
)
    | (with_reducible refine here_next (N0 := 30000000) ?_
       skip
       refine nexts_to (_, _, _, _, _, _) (by decide) ?_ (Nat.lt_succ_self _) h ?_
       · exact (by simp [slNL, C.inN, V.inN, V.inNs, V.inNss, inNss_dd, inNs_map_d])
       · simp only [SubL, putSt, lk, Res.s.injEq, Res.r.injEq, reduceCtorEq, Nat.reduceEqDiff, if_true, if_false, List.length_set, List.length_replicate]; repeat' (first | apply And.intro | rfl | trivial | (simp only [*]; done)))
    | (with_reducible refine here_loop (c := (.seq (.region 10 _ _) _)) ?_
       skip
       revert h
       with_reducible refine bind_elimY ?_
       intro o2 h hK2
       refine sw_loop (ι := Nat × (List Int) × Gprog × Int × Int × Int × Int) 20000000 (by decide) (fun x : Nat × (List Int) × Gprog × Int × Int × Int × Int => [(.s 0, some (.v (.d (.ptr .bor [.row .bor 3 (Rw (GFunc.cells .bor) x.2.2.1.program.funcs), .row .bor 1 (Rw (cL .bor 1 (cI .i64)) x.2.2.1.h)])))), (.s 1, some (.v (V.int x.2.2.2.1))), (.s 5, some (.v (V.int x.2.2.2.2.1))), (.s 7, some (.v (.sl 10000384 1 0 x.2.1.length))), (.s 36, some (.v (V.int x.2.2.2.2.2.1))), (.s 37, some (.v (V.int x.2.2.2.2.2.2))), (.r 10000384, some (.o 1 (dd (Rw (cI .i64) x.2.1))))]) (fun x => x.1) (fun x => Yes (impl_prog_doms.l2 x.1 x.2.1 x.2.2.1 x.2.2.2.1 x.2.2.2.2.1 x.2.2.2.2.2.1 x.2.2.2.2.2.2) o2) (_, _, _, _, _, _, _) ?_ h ?_ ?_
       · exact (by simp [slNL, C.inN, V.inN, V.inNs, V.inNss, inNss_dd, inNs_map_d])
       · simp only [SubL, putSt, lk, Res.s.injEq, Res.r.injEq, reduceCtorEq, Nat.reduceEqDiff, if_true, if_false, List.length_set, List.length_replicate]; repeat' (first | apply And.intro | rfl | trivial | (simp only [*]; done))
       rintro ⟨_ | k, a1, a2, a3, a4, a5, a6⟩ h
       · simp only [impl_prog_doms.l2] at h; exact h.none
       simp only [impl_prog_doms.l2] at h
)
    | (with_reducible refine here_next (N0 := 20000000) ?_
       skip
       refine nexts_to (_, _, _, _, _, _, _) (by decide) ?_ (Nat.lt_succ_self _) h ?_
       · exact (by simp [slNL, C.inN, V.inN, V.inNs, V.inNss, inNss_dd, inNs_map_d])
       · simp only [SubL, putSt, lk, Res.s.injEq, Res.r.injEq, reduceCtorEq, Nat.reduceEqDiff, if_true, if_false, List.length_set, List.length_replicate]; repeat' (first | apply And.intro | rfl | trivial | (simp only [*]; done)))
    | (with_reducible refine here_loop (c := (.seq (.region 3 _ _) _)) ?_
       skip
       revert h
       with_reducible refine bind_elimY ?_
       intro o1 h hK1
       refine sw_loop (ι := Nat × Gprog × Int × Int × Int × Int) 10000000 (by decide) (fun x : Nat × Gprog × Int × Int × Int × Int => [(.s 0, some (.v (.d (.ptr .bor [.row .bor 3 (Rw (GFunc.cells .bor) x.2.1.program.funcs), .row .bor 1 (Rw (cL .bor 1 (cI .i64)) x.2.1.h)])))), (.s 1, some (.v (V.int x.2.2.1))), (.s 5, some (.v (V.int x.2.2.2.1))), (.s 17, some (.v (V.int x.2.2.2.2.1))), (.s 18, some (.v (V.int x.2.2.2.2.2)))]) (fun x => x.1) (fun x => Yes (impl_prog_doms.l1 x.1 x.2.1 x.2.2.1 x.2.2.2.1 x.2.2.2.2.1 x.2.2.2.2.2) o1) (_, _, _, _, _, _) ?_ h ?_ ?_
       · exact (by simp [slNL, C.inN, V.inN, V.inNs, V.inNss, inNss_dd, inNs_map_d])
       · simp only [SubL, putSt, lk, Res.s.injEq, Res.r.injEq, reduceCtorEq, Nat.reduceEqDiff, if_true, if_false, List.length_set, List.length_replicate]; repeat' (first | apply And.intro | rfl | trivial | (simp only [*]; done))
       rintro ⟨_ | k, a1, a2, a3, a4, a5⟩ h
       · simp only [impl_prog_doms.l1] at h; exact h.none
       simp only [impl_prog_doms.l1] at h
)
    | (with_reducible refine here_next (N0 := 10000000) ?_
       skip
       refine nexts_to (_, _, _, _, _, _) (by decide) ?_ (Nat.lt_succ_self _) h ?_
       · exact (by simp [slNL, C.inN, V.inN, V.inNs, V.inNss, inNss_dd, inNs_map_d])
       · simp only [SubL, putSt, lk, Res.s.injEq, Res.r.injEq, reduceCtorEq, Nat.reduceEqDiff, if_true, if_false, List.length_set, List.length_replicate]; repeat' (first | apply And.intro | rfl | trivial | (simp only [*]; done)))
    | with_reducible refine sw_seq ?_
    | with_reducible refine seqQ_ret ?_
    | with_reducible refine seqQ_exit ?_
    | (with_reducible refine gh_nilRow 4 .own 1 ?_ ?_
       · simp only [putSt, lk, Res.s.injEq, Res.r.injEq, reduceCtorEq, Nat.reduceEqDiff, if_true, if_false]; done
       skip)
    | ((with_reducible refine wp_ite ?_ ?_)
       all_goals (intro hc; (try (simp only [Bool.not_eq_true, Bool.not_eq_false] at hc)); (try (revert h; first | (with_reducible refine condt_elim hc ?_; intro h) | (with_reducible refine condf_elim hc ?_; intro h) | fail)); simp only [hc]))
    | (with_reducible apply regW_skip
       · simp only [dstOk, Nat.reduceLT]
       · rfl
       · simp only [putSt, lk, Res.s.injEq, Res.r.injEq, reduceCtorEq, Nat.reduceEqDiff, if_true, if_false]; done)
    | (with_reducible apply regW_yesN
       · simp only [dstOk, Nat.reduceLT]
       · rfl
       · simp only [putSt, lk, Res.s.injEq, Res.r.injEq, reduceCtorEq, Nat.reduceEqDiff, if_true, if_false]; done)
    | (with_reducible apply regW_no
       · simp only [dstOk, Nat.reduceLT]
       · rfl
       · simp only [putSt, lk, Res.s.injEq, Res.r.injEq, reduceCtorEq, Nat.reduceEqDiff, if_true, if_false, Bool.not_true, Bool.not_false]; done)
    | (with_reducible apply regW_guardN
       · simp only [dstOk, Nat.reduceLT]
       · rfl
       · simp only [putSt, lk, Res.s.injEq, Res.r.injEq, reduceCtorEq, Nat.reduceEqDiff, if_true, if_false]; rfl
       all_goals (intro hc; (try (simp only [Bool.not_true, Bool.not_false] at hc)); (try (revert h; first | (with_reducible refine condt_elim hc ?_; intro h) | (with_reducible refine condf_elim hc ?_; intro h) | fail))))
    | ((with_reducible apply sw_cond
        · simp only [putSt, lk, Res.s.injEq, Res.r.injEq, reduceCtorEq, Nat.reduceEqDiff, if_true, if_false]; rfl
        all_goals (intro hc; try (cases hc; done)))
       all_goals (try (revert h; first | (with_reducible refine condt_elim hc ?_; intro h) | (with_reducible refine condf_elim hc ?_; intro h) | fail)))
    | ((first
        | ((with_reducible refine gh_ret ?_)
           revert h
           with_reducible refine some_elim ?_
           rintro rfl)
        | (with_reducible refine here_call ?_
           revert h
           with_reducible refine bind_elim ?_
           intro t ht h
           (first
             | (refine call_dataE (c_impl_prog_preds ht) ?_ rfl ?_
                · first | rfl | (simp; done))
             | (refine call_dataE (c_impl_prog_code ht) ?_ rfl ?_
                · first | rfl | (simp; done))
             | (refine call_dataE (c_impl_prog_reached ht) ?_ rfl ?_
                · first | rfl | (simp; done))))
        | (with_reducible apply regD_opK
           · simp only [dstOk, Nat.reduceLT]
           · simp only [Nat.reduceAdd]; rfl
           intro k hk)
        | (with_reducible apply regW_opK
           · simp only [dstOk, Nat.reduceLT]
           · simp only [Nat.reduceAdd]; rfl
           intro k hk)
        | skip)
       simp only [RetW, bn, opC, opP, fetchN, fetchP, fetchAll, fetchO, Prog.bind, Prog.wp, Prog.wp_bind, lk, nameP, nameAll, Value.oneCell', putSt, stepP, putP, Res.s.injEq, Res.r.injEq, reduceCtorEq, V.lin, V.linL, D.lin, isNil, binP, unP, BinOp.isShift, Prog.ofO, true_and, and_true, Nat.reduceAdd, Nat.reduceMul, Nat.reduceSub, Nat.reduceLT, Nat.reduceLeDiff, Nat.reduceEqDiff, if_true, if_false, ite_true, ite_false, Bool.false_eq_true, Bool.not_true, Bool.not_false, Bool.or_false, Bool.or_true, fieldAddrP, fieldP, indexAddrP, loadP, storeP, boxP, allocP, cellsP, asVal, setSeg, outP, outT, cntT, TyK.field, TyK.agg, zeroRow, V.ren, V.renL, forall_eq_or_imp, implies_true, false_implies, forall_const, and_self, true_or, minmaxP, lenP, lenOf, lenStr, V.asInt, decide_true, decide_false, sliceP, boundP, makeSliceP, convertP, appendP, rowsOfP, ontoP, sizeFits, V.rowSize, TyK.src, resV, resV.go, resV.gol, retP, retOne, retAll, resTo, objsAre, Option.map_eq_map, Function.const_apply, Int.reduceNeg, Int.reduceToNat, ty2, ty3, ty26, ty28, ty30, ty53, ty63, ty65, ty68, ty107, ty122, GFunc.cells, GI2.cells, GProgram.cells, Gprog.cells, cI, cB, cS, cL, GI2_e, GFunc_e, GProgram_e, Gprog_e, LcIi64_e, LGI2_e, shiftBin_shl, shiftBin_shr, intBin_quo, intBin_rem, Int.reduceLT, Int.reduceEq, not_false_eq_true, Int.not_lt, nilEqP, ne_eq, not_false_eq_true, not_true_eq_false, *]
       try (refine hk.use _ _ _ _ ?_; clear hk k))
    | fail)
  all_goals (try rfl)
  all_goals (try (simp; done))
  all_goals (try (simp_all; done))

end Go.Proofs.Ytdlaplgofgklnaa
namespace Go.Proofs.Ytdlaplgofgklnaa
open Go.Proofs Go.Proofs.Ytdlaplgofgklnaa.L
set_option maxHeartbeats 1000000
set_option linter.unusedSimpArgs false
set_option linter.unusedVariables false
set_option maxRecDepth 100000

def impl_Doms (k : Nat) (p0 : GProgram) (p1 : Int) : Option ((List Int)) :=
  (impl_knownFunc k p0 p1).bind fun t1 => cond ((!t1.2)) (some []) ((impl_prog_doms k t1.1 p1).bind fun t2 => some t2)

end Go.Proofs.Ytdlaplgofgklnaa
namespace Go.Proofs.Ytdlaplgofgklnaa
open Go.Proofs Go.Proofs.Ytdlaplgofgklnaa.L
set_option maxHeartbeats 1000000
set_option linter.unusedSimpArgs false
set_option linter.unusedVariables false
set_option maxRecDepth 100000

def laws_FnExactDoms.a1 (k : Nat) (a1 : (List GFunc)) (a2 : (List Int)) (a3 : (List Int)) (a4 : Int) (a5 : Int) : Option ((Bool) ⊕ ((List GFunc) × (List Int) × (List Int) × Int)) :=
  cond ((decide (a5 < 0))) (some (.inl (false))) ((laws_eqInt64S k a3 a2).bind fun t10 => cond ((!t10)) (some (.inl (false))) (some (.inr (a1, a2, a3, a4))))

def laws_FnExactDoms (k : Nat) (p0 : GProgram) (p1 : Int) : Option (Bool) :=
  (laws_szProgram k p0 1048576).bind fun t1 => cond ((decide (t1 < 0))) (some true) ((laws_toProgram k p0).bind fun t2 => (spec_Doms k t2 p1).bind fun t3 => (laws_toProgram k p0).bind fun t4 => (impl_Doms k t4 p1).bind fun t5 => (laws_eqInt64S k t5 t3).bind fun t6 => cond ((!t6)) (some false) ((laws_toProgram k p0).bind fun t7 => (laws_eqProgram k t4 t7).bind fun t8 => cond ((!t8)) (some false) ((laws_markProgram k t4 1).bind fun t9 => gd (t9.2.length = t4.funcs.length) ((laws_FnExactDoms.a1 k p0.funcs t3 t5 p1 t9.1).bind fun o1 => Sum.elim (fun o1l => some o1l) (fun o1r => (laws_markInt64S k o1r.2.2.1 1).bind fun t11 => gd (t11.2.length = o1r.2.2.1.length) ((laws_heldInt64S k t11.2 1).bind fun t12 => cond ((decide (t12 < 0))) (some false) (cond ((t12 != t11.1)) (some false) ((laws_toProgram k ((⟨o1r.1⟩ : GProgram))).bind fun t13 => (impl_Doms k t13 o1r.2.2.2).bind fun t14 => (laws_eqInt64S k t14 o1r.2.1).bind fun t15 => cond ((!t15)) (some false) ((laws_heldInt64S k t11.2 1).bind fun t16 => cond ((decide (t16 < 0))) (some false) (cond ((t16 != t11.1)) (some false) (some true))))))) o1))))

end Go.Proofs.Ytdlaplgofgklnaa
namespace Go.Proofs.Ytdlaplgofgklnaa
open Go.Proofs Go.Proofs.Ytdlaplgofgklnaa.L
set_option maxHeartbeats 1000000
set_option linter.unusedSimpArgs false
set_option linter.unusedVariables false
set_option maxRecDepth 100000

def spec_l17Body.l1 : Nat → (List (List Int)) → Int → (List Int) → Option (Int)
  | 0, _, _, _ => none
  | k + 1, a1, a2, a3 => cond ((decide (((a3.length : Int)) > 0))) ((idx a3 ((IntKind.i64.wrap (((a3.length : Int)) - 1)))).bind fun m1 => gd (0 ≤ (IntKind.i64.wrap (((a3.length : Int)) - 1)) ∧ (IntKind.i64.wrap (((a3.length : Int)) - 1)) ≤ (a3.length : Int)) ((spec_l08Bit m1).bind fun t2 => cond ((((iand .i64 a2 t2)) != 0)) (spec_l17Body.l1 k a1 a2 ((a3.take (((IntKind.i64.wrap (((a3.length : Int)) - 1))).toNat)))) ((spec_l08Bit m1).bind fun t3 => (idx a1 m1).bind fun m4 => gd ((((IntKind.i64.wrap (((a3.length : Int)) - 1))).toNat + m4.length) * 8 ≤ 35184372088832 ∧ ((IntKind.i64.wrap (((a3.length : Int)) - 1))).toNat + m4.length ≤ 35184372088832) (spec_l17Body.l1 k a1 ((ior .i64 a2 t3)) (((a3.take (((IntKind.i64.wrap (((a3.length : Int)) - 1))).toNat)) ++ m4)))))) (some (a2))

def spec_l17Body (k : Nat) (p0 : (List (List Int))) (p1 : Int) (p2 : Int) : Option (Int) :=
  (spec_l17Body.l1 k p0 p1 ([p2])).bind fun o1 => some o1

theorem c_spec_l17Body {k : Nat} {p0 : (List (List Int))} {p1 : Int} {p2 : Int} {r : Int} (h : spec_l17Body k p0 p1 p2 = some r) : Con Try.prog 49 [.d (.row .bor 1 (Rw (cL .bor 1 (cI .i64)) p0)), V.int p1, V.int p2] [] (V.int r) [] := by
  refine con_of_sw Try.func49 rfl Try.call49 (by simp [Try.ntmps49]) (by simp [V.inNs, V.inN]) (by simp [C.inN, V.inNss, V.inNs, V.inN, inNss_dd]) (by simp [V.inNs, V.inN]) (by simp [C.inN, V.inNss, V.inNs, V.inN, inNss_dd]) rfl ?_
  rw [Try.ntmps49, Try.results49]
  unfold spec_l17Body at h
  replace h := Yes.mk h
  simp only [entryS, entryO, Nat.reduceAdd, List.length_nil, List.length_cons]
  repeat' (first
    | with_reducible refine sw_reg ?_
    | with_reducible refine sw_ret ?_
    | with_reducible refine sw_skip ?_
    | with_reducible refine sw_block ?_
    | with_reducible refine sw_exit ?_
    | with_reducible refine seqQ_normal ?_
    | with_reducible refine blockQ_normal ?_
    | with_reducible refine blockQ_ret ?_
    | with_reducible refine blockQ_this ?_
    | with_reducible refine blockQ_other (by decide) ?_
    | with_reducible refine regW_nil ?_
    | with_reducible refine sw_draw mixed ?_
    | (with_reducible refine regD_nil ?_
       refine ⟨by kernel_rfl, ?_⟩)
    | with_reducible refine retQ_ret ?_
    | with_reducible refine retQ_normal ?_
    | (revert h; (first | ((with_reducible refine idx_elim ?_); intro m hm1 hm2 hm3 h; (try (simp only [Int.reduceToNat] at hm3)); (try (revert hm3; (with_reducible apply same_elim); (focus (with_reducible assumption)); rintro rfl)); (try (simp only [List.length_set, List.length_cons, List.length_nil, List.length_replicate, Nat.reduceAdd, Int.cast_ofNat_Int, Nat.zero_add, List.length_append] at hm2))) | (with_reducible refine sidx_elim ?_; intro m hm1 hm3 h) | (with_reducible refine gd_elim ?_; intro hg h; try (have hg2 := hg.2; have hg := hg.1; (try (simp only [Nat.reduceLeDiff] at hg2)); (try (revert hg2; (with_reducible refine toNat_elim hg ?_); intro hg2 hg4)); try (have hg3 := hg2.2; have hg2 := hg2.1; (try (simp only [Nat.reduceLeDiff] at hg3))))) | fail))
    | ((first | with_reducible refine seqQ_ret (K := (fun st1 n1 => Gh st1 n1 (NextS _ 10000000 _ _ _ _))) ?_ | with_reducible refine seqQ_exit (K := (fun st1 n1 => Gh st1 n1 (NextS _ 10000000 _ _ _ _))) ?_)
       obtain rfl := h.get
       have h := hK1
       (try (simp only [Sum.elim_inl, Sum.elim_inr] at h)))
    | (with_reducible refine here_loop (c := (.seq (.seq (.region 2 _ _) _) _)) ?_
       skip
       revert h
       with_reducible refine bind_elimY ?_
       intro o1 h hK1
       refine sw_gh ?_
       refine gh_resSlot 7 ?_
       simp only [List.set_cons_zero, List.set_cons_succ, List.length_nil, List.length_cons, Nat.reduceAdd, Nat.reduceLeDiff, List.take_succ_cons, List.take_of_length_le, List.length_set, List.length_replicate, List.take_length, List.take_nil, List.take_zero, List.drop_nil, List.map_nil, List.map_cons, resSlotP, nameSlotP, Prog.wp, Prog.wp_bind, Prog.bind, Prog.ofO, putSt, lk, Res.s.injEq, Res.r.injEq, reduceCtorEq, Nat.reduceEqDiff, if_true, if_false, resV, resV.go, resV.gol, resGo_dd, dd_length, dd_take, dd_drop, dd_get, List.drop_zero, Rw_length, Rw_take, Rw_drop, Nat.zero_add, Nat.le_refl, true_and, and_true, and_self, nameAll, nameP, outP, outT, cntT, V.lin, D.lin, *]
       refine gh_sw ?_
       refine sw_loop (ι := Nat × (List (List Int)) × Int × (List Int)) 10000000 (by decide) (fun x : Nat × (List (List Int)) × Int × (List Int) => [(.s 0, some (.v (.d (.row .bor 1 (Rw (cL .bor 1 (cI .i64)) x.2.1))))), (.s 1, some (.v (V.int x.2.2.1))), (.s 7, some (.v (.d (.row .own 1 (Rw (cI .i64) x.2.2.2)))))]) (fun x => x.1) (fun x => Yes (spec_l17Body.l1 x.1 x.2.1 x.2.2.1 x.2.2.2) o1) (_, _, _, _) ?_ h ?_ ?_
       · exact (by simp [slNL, C.inN, V.inN, V.inNs, V.inNss, inNss_dd, inNs_map_d])
       · simp only [SubL, putSt, lk, Res.s.injEq, Res.r.injEq, reduceCtorEq, Nat.reduceEqDiff, if_true, if_false, List.length_set, List.length_replicate]; repeat' (first | apply And.intro | rfl | trivial | (simp only [*]; done))
       rintro ⟨_ | k, a1, a2, a3⟩ h
       · simp only [spec_l17Body.l1] at h; exact h.none
       simp only [spec_l17Body.l1] at h
       refine sw_gh ?_
       refine gh_nameSlot 7 ?_
       simp only [List.set_cons_zero, List.set_cons_succ, List.length_nil, List.length_cons, Nat.reduceAdd, Nat.reduceLeDiff, List.take_succ_cons, List.take_of_length_le, List.length_set, List.length_replicate, List.take_length, List.take_nil, List.take_zero, List.drop_nil, List.map_nil, List.map_cons, resSlotP, nameSlotP, Prog.wp, Prog.wp_bind, Prog.bind, Prog.ofO, putSt, lk, Res.s.injEq, Res.r.injEq, reduceCtorEq, Nat.reduceEqDiff, if_true, if_false, resV, resV.go, resV.gol, resGo_dd, dd_length, dd_take, dd_drop, dd_get, List.drop_zero, Rw_length, Rw_take, Rw_drop, Nat.zero_add, Nat.le_refl, true_and, and_true, and_self, nameAll, nameP, outP, outT, cntT, V.lin, D.lin, Nat.reduceAdd]
       refine gh_sw ?_
)
    | (with_reducible refine here_next (N0 := 10000000) ?_
       skip
       refine gh_resSlot 7 ?_
       simp only [List.set_cons_zero, List.set_cons_succ, List.length_nil, List.length_cons, Nat.reduceAdd, Nat.reduceLeDiff, List.take_succ_cons, List.take_of_length_le, List.length_set, List.length_replicate, List.take_length, List.take_nil, List.take_zero, List.drop_nil, List.map_nil, List.map_cons, resSlotP, nameSlotP, Prog.wp, Prog.wp_bind, Prog.bind, Prog.ofO, putSt, lk, Res.s.injEq, Res.r.injEq, reduceCtorEq, Nat.reduceEqDiff, if_true, if_false, resV, resV.go, resV.gol, resGo_dd, dd_length, dd_take, dd_drop, dd_get, List.drop_zero, Rw_length, Rw_take, Rw_drop, Nat.zero_add, Nat.le_refl, true_and, and_true, and_self, nameAll, nameP, outP, outT, cntT, V.lin, D.lin, *]
       refine nexts_to (_, _, _, _) (by decide) ?_ (Nat.lt_succ_self _) h ?_
       · exact (by simp [slNL, C.inN, V.inN, V.inNs, V.inNss, inNss_dd, inNs_map_d])
       · simp only [SubL, putSt, lk, Res.s.injEq, Res.r.injEq, reduceCtorEq, Nat.reduceEqDiff, if_true, if_false, List.length_set, List.length_replicate]; repeat' (first | apply And.intro | rfl | trivial | (simp only [*]; done)))
    | with_reducible refine sw_seq ?_
    | with_reducible refine seqQ_ret ?_
    | with_reducible refine seqQ_exit ?_
    | ((with_reducible refine wp_ite ?_ ?_)
       all_goals (intro hc; (try (simp only [Bool.not_eq_true, Bool.not_eq_false] at hc)); (try (revert h; first | (with_reducible refine condt_elim hc ?_; intro h) | (with_reducible refine condf_elim hc ?_; intro h) | fail)); simp only [hc]))
    | (with_reducible apply regW_skip
       · simp only [dstOk, Nat.reduceLT]
       · rfl
       · simp only [putSt, lk, Res.s.injEq, Res.r.injEq, reduceCtorEq, Nat.reduceEqDiff, if_true, if_false]; done)
    | (with_reducible apply regW_yesN
       · simp only [dstOk, Nat.reduceLT]
       · rfl
       · simp only [putSt, lk, Res.s.injEq, Res.r.injEq, reduceCtorEq, Nat.reduceEqDiff, if_true, if_false]; done)
    | (with_reducible apply regW_no
       · simp only [dstOk, Nat.reduceLT]
       · rfl
       · simp only [putSt, lk, Res.s.injEq, Res.r.injEq, reduceCtorEq, Nat.reduceEqDiff, if_true, if_false, Bool.not_true, Bool.not_false]; done)
    | (with_reducible apply regW_guardN
       · simp only [dstOk, Nat.reduceLT]
       · rfl
       · simp only [putSt, lk, Res.s.injEq, Res.r.injEq, reduceCtorEq, Nat.reduceEqDiff, if_true, if_false]; rfl
       all_goals (intro hc; (try (simp only [Bool.not_true, Bool.not_false] at hc)); (try (revert h; first | (with_reducible refine condt_elim hc ?_; intro h) | (with_reducible refine condf_elim hc ?_; intro h) | fail))))
    | ((with_reducible apply sw_cond
        · simp only [putSt, lk, Res.s.injEq, Res.r.injEq, reduceCtorEq, Nat.reduceEqDiff, if_true, if_false]; rfl
        all_goals (intro hc; try (cases hc; done)))
       all_goals (try (revert h; first | (with_reducible refine condt_elim hc ?_; intro h) | (with_reducible refine condf_elim hc ?_; intro h) | fail)))
    | ((first
        | ((with_reducible refine gh_ret ?_)
           revert h
           with_reducible refine some_elim ?_
           rintro rfl)
        | (with_reducible refine here_call ?_
           revert h
           with_reducible refine bind_elim ?_
           intro t ht h
           (first
             | (refine call_dataE (c_spec_l08Bit ht) ?_ rfl ?_
                · first | rfl | (simp; done))))
        | (with_reducible apply regD_opK
           · simp only [dstOk, Nat.reduceLT]
           · simp only [Nat.reduceAdd]; rfl
           intro k hk)
        | (with_reducible apply regW_opK
           · simp only [dstOk, Nat.reduceLT]
           · simp only [Nat.reduceAdd]; rfl
           intro k hk)
        | skip)
       simp only [RetW, bn, opC, opP, fetchN, fetchP, fetchAll, fetchO, Prog.bind, Prog.wp, Prog.wp_bind, lk, nameP, nameAll, Value.oneCell', putSt, stepP, putP, Res.s.injEq, Res.r.injEq, reduceCtorEq, V.lin, V.linL, D.lin, isNil, binP, unP, BinOp.isShift, Prog.ofO, true_and, and_true, Nat.reduceAdd, Nat.reduceMul, Nat.reduceSub, Nat.reduceLT, Nat.reduceLeDiff, Nat.reduceEqDiff, if_true, if_false, ite_true, ite_false, Bool.false_eq_true, Bool.not_true, Bool.not_false, Bool.or_false, Bool.or_true, fieldAddrP, fieldP, indexAddrP, loadP, storeP, boxP, allocP, cellsP, asVal, setSeg, outP, outT, cntT, TyK.field, TyK.agg, zeroRow, V.ren, V.renL, forall_eq_or_imp, implies_true, false_implies, forall_const, and_self, true_or, minmaxP, lenP, lenOf, lenStr, V.asInt, decide_true, decide_false, sliceP, boundP, makeSliceP, convertP, appendP, rowsOfP, ontoP, sizeFits, V.rowSize, TyK.src, resV, resV.go, resV.gol, retP, retOne, retAll, resTo, objsAre, Option.map_eq_map, Function.const_apply, Int.reduceNeg, Int.reduceToNat, ty2, ty3, ty26, ty53, cI, cB, cS, cL, LcIi64_e, buildP, buildSliceP, putParts, structPlaces, chunks, List.replicate, List.flatten_nil, List.flatten_cons, Option.bind_some, bb, LcIi64_b, List.length_take, Nat.min_eq_left, *]
       try (refine hk.use _ _ _ _ ?_; clear hk k))
    | fail)
  all_goals (try rfl)
  all_goals (try (simp; done))
  all_goals (try (simp_all; done))

end Go.Proofs.Ytdlaplgofgklnaa
namespace Go.Proofs.Ytdlaplgofgklnaa
open Go.Proofs Go.Proofs.Ytdlaplgofgklnaa.L
set_option maxHeartbeats 1000000
set_option linter.unusedSimpArgs false
set_option linter.unusedVariables false
set_option maxRecDepth 100000

def spec_Loops.l3 : Nat → (List (List Int)) → (List Int) → (List GI3) → Int → Int → Int → Option ((List (List Int)) × (List Int) × (List GI3) × Int × Int)
  | 0, _, _, _, _, _, _ => none
  | k + 1, a1, a2, a3, a4, a5, a6 => (idx a1 a4).bind fun m4 => cond ((decide (a6 < ((m4.length : Int))))) ((idx m4 a6).bind fun m5 => (idx a2 a4).bind fun m6 => cond ((m6 != 0)) ((idx a2 m5).bind fun m7 => (spec_l08Bit a4).bind fun t8 => cond ((((iand .i64 m7 t8)) != 0)) ((spec_l08Bit a4).bind fun t9 => (spec_l17Body k ((a1.set a4.toNat m4)) ((ior .i64 a5 t9)) m5).bind fun t10 => spec_Loops.l3 k ((a1.set a4.toNat m4)) a2 a3 a4 t10 ((IntKind.i64.wrap (a6 + 1)))) (spec_Loops.l3 k ((a1.set a4.toNat m4)) a2 a3 a4 a5 ((IntKind.i64.wrap (a6 + 1))))) (spec_Loops.l3 k ((a1.set a4.toNat m4)) a2 a3 a4 a5 ((IntKind.i64.wrap (a6 + 1))))) (some ((a1.set a4.toNat m4), a2, a3, a4, a5))

def spec_Loops.a2 (k : Nat) (a1 : (List (List Int))) (a2 : (List Int)) (a3 : (List GI3)) (a4 : Int) : Option ((List (List Int)) × (List Int) × (List GI3) × Int) :=
  (spec_Loops.l3 k a1 a2 a3 a4 0 0).bind fun o3 => cond ((o3.2.2.2.2 != 0)) (gd ((o3.2.2.1.length + 1) * 24 ≤ 35184372088832 ∧ o3.2.2.1.length + 1 ≤ 35184372088832) (some (o3.1, o3.2.1, (o3.2.2.1 ++ [(⟨o3.2.2.2.1, o3.2.2.2.2, 0⟩ : GI3)]), o3.2.2.2.1))) (some (o3.1, o3.2.1, o3.2.2.1, o3.2.2.2.1))

def spec_Loops.l1 : Nat → (List (List Int)) → (List Int) → (List GI3) → Int → Option ((List GI3))
  | 0, _, _, _, _ => none
  | k + 1, a1, a2, a3, a4 => cond ((decide (a4 < ((a2.length : Int))))) ((spec_Loops.a2 k a1 a2 a3 a4).bind fun o2 => spec_Loops.l1 k o2.1 o2.2.1 o2.2.2.1 ((IntKind.i64.wrap (o2.2.2.2 + 1)))) (some (a3))

def spec_Loops.l5 : Nat → (List GI3) → Int → Int → Option ((List GI3) × Int)
  | 0, _, _, _ => none
  | k + 1, a1, a2, a3 => cond ((decide (a3 < ((a1.length : Int))))) ((idx a1 a3).bind fun m11 => (idx a1 a2).bind fun m12 => (spec_l08Bit m12.a).bind fun t13 => cond ((((iand .i64 m11.b t13)) != 0)) (spec_Loops.l5 k ((a1.set a2.toNat ((⟨m12.a, m12.b, (IntKind.i64.wrap (m12.c + 1))⟩ : GI3)))) a2 ((IntKind.i64.wrap (a3 + 1)))) (spec_Loops.l5 k a1 a2 ((IntKind.i64.wrap (a3 + 1))))) (some (a1, a2))

def spec_Loops.l4 : Nat → (List GI3) → Int → Option ((List GI3))
  | 0, _, _ => none
  | k + 1, a1, a2 => cond ((decide (a2 < ((a1.length : Int))))) ((spec_Loops.l5 k a1 a2 0).bind fun o5 => spec_Loops.l4 k o5.1 ((IntKind.i64.wrap (o5.2 + 1)))) (some (a1))

def spec_Loops (k : Nat) (p0 : GProgram) (p1 : Int) : Option ((List GI3)) :=
  (spec_l04Is k p0 p1).bind fun t1 => cond ((!t1)) (some []) ((spec_l17Preds k p0 p1).bind fun t2 => (spec_l17Doms k p0 p1).bind fun t3 => (spec_Loops.l1 k t2 t3 [] 0).bind fun o1 => (spec_Loops.l4 k o1 0).bind fun o4 => some o4)

theorem c_spec_Loops {k : Nat} {p0 : GProgram} {p1 : Int} {r : (List GI3)} (h : spec_Loops k p0 p1 = some r) : Con Try.prog 22 [.agg [.d (.row .bor 3 (Rw (GFunc.cells .bor) p0.funcs))], V.int p1] [] (.d (.row .own 3 (Rw GI3.cells r))) [] := by
  refine con_of_sw Try.func22 rfl Try.call22 (by simp [Try.ntmps22]) (by simp [V.inNs, V.inN]) (by simp [C.inN, V.inNss, V.inNs, V.inN, inNss_dd]) (by simp [V.inNs, V.inN]) (by simp [C.inN, V.inNss, V.inNs, V.inN, inNss_dd]) rfl ?_
  rw [Try.ntmps22, Try.results22]
  unfold spec_Loops at h
  replace h := Yes.mk h
  simp only [entryS, entryO, Nat.reduceAdd, List.length_nil, List.length_cons]
  repeat' (first
    | with_reducible refine sw_reg ?_
    | with_reducible refine sw_ret ?_
    | with_reducible refine sw_skip ?_
    | with_reducible refine sw_block ?_
    | with_reducible refine sw_exit ?_
    | with_reducible refine seqQ_normal ?_
    | with_reducible refine blockQ_normal ?_
    | with_reducible refine blockQ_ret ?_
    | with_reducible refine blockQ_this ?_
    | with_reducible refine blockQ_other (by decide) ?_
    | with_reducible refine regW_nil ?_
    | with_reducible refine sw_draw mixed ?_
    | (with_reducible refine regD_nil ?_
       refine ⟨by kernel_rfl, ?_⟩)
    | with_reducible refine retQ_ret ?_
    | with_reducible refine retQ_normal ?_
    | (revert h; (first | ((with_reducible refine idx_elim ?_); intro m hm1 hm2 hm3 h; (try (simp only [Int.reduceToNat] at hm3)); (try (revert hm3; (with_reducible apply same_elim); (focus (with_reducible assumption)); rintro rfl)); (try (simp only [List.length_set, List.length_cons, List.length_nil, List.length_replicate, Nat.reduceAdd, Int.cast_ofNat_Int, Nat.zero_add, List.length_append] at hm2))) | (with_reducible refine sidx_elim ?_; intro m hm1 hm3 h) | (with_reducible refine gd_elim ?_; intro hg h; try (have hg2 := hg.2; have hg := hg.1; (try (simp only [Nat.reduceLeDiff] at hg2)); (try (revert hg2; (with_reducible refine toNat_elim hg ?_); intro hg2 hg4)); try (have hg3 := hg2.2; have hg2 := hg2.1; (try (simp only [Nat.reduceLeDiff] at hg3))))) | fail))
    | ((first | with_reducible refine seqQ_ret (K := (fun st1 n1 => Gh st1 n1 (NextS _ 30000000 _ _ _ _))) ?_ | with_reducible refine seqQ_exit (K := (fun st1 n1 => Gh st1 n1 (NextS _ 30000000 _ _ _ _))) ?_)
       obtain rfl := h.get
       have h := hK3
       (try (simp only [Sum.elim_inl, Sum.elim_inr] at h)))
    | ((first | with_reducible refine seqQ_ret (K := (fun st1 n1 => Gh st1 n1 (MeetA _ 20000000 _ _))) ?_ | with_reducible refine seqQ_exit (K := (fun st1 n1 => Gh st1 n1 (MeetA _ 20000000 _ _))) ?_)
       obtain rfl := h.get
       have h := hK2
       (try (simp only [Sum.elim_inl, Sum.elim_inr] at h)))
    | ((first | with_reducible refine seqQ_ret (K := (fun st1 n1 => Gh st1 n1 (NextS _ 50000000 _ _ _ _))) ?_ | with_reducible refine seqQ_exit (K := (fun st1 n1 => Gh st1 n1 (NextS _ 50000000 _ _ _ _))) ?_)
       obtain rfl := h.get
       have h := hK5
       (try (simp only [Sum.elim_inl, Sum.elim_inr] at h)))
    | ((first | with_reducible refine seqQ_ret (K := (fun st1 n1 => Gh st1 n1 (NextS _ 40000000 _ _ _ _))) ?_ | with_reducible refine seqQ_exit (K := (fun st1 n1 => Gh st1 n1 (NextS _ 40000000 _ _ _ _))) ?_)
       obtain rfl := h.get
       have h := hK4
       (try (simp only [Sum.elim_inl, Sum.elim_inr] at h)))
    | ((first | with_reducible refine seqQ_ret (K := (fun st1 n1 => Gh st1 n1 (NextS _ 10000000 _ _ _ _))) ?_ | with_reducible refine seqQ_exit (K := (fun st1 n1 => Gh st1 n1 (NextS _ 10000000 _ _ _ _))) ?_)
       obtain rfl := h.get
       have h := hK1
       (try (simp only [Sum.elim_inl, Sum.elim_inr] at h)))
    | (with_reducible refine here_loop (c := (.seq (.seq (.region 11 _ _) _) _)) ?_
       skip
       revert h
       with_reducible refine bind_elimY ?_
       intro o3 h hK3
       refine sw_gh ?_
       (try (apply gh_resRow 640; (focus (simp only [putSt, lk, Res.s.injEq, Res.r.injEq, reduceCtorEq, Nat.reduceEqDiff, if_true, if_false]; try rfl)); (focus (first | (simp only [Rw_length, List.length_set]; omega) | (simp [Rw_length]; omega))); simp only [List.set_cons_zero, List.set_cons_succ, List.length_nil, List.length_cons, Nat.reduceAdd, Nat.reduceLeDiff, List.take_succ_cons, List.take_of_length_le, List.length_set, List.length_replicate, List.take_length, List.take_nil, List.take_zero, List.drop_nil, List.map_nil, List.map_cons, resSlotP, nameSlotP, Prog.wp, Prog.wp_bind, Prog.bind, Prog.ofO, putSt, lk, Res.s.injEq, Res.r.injEq, reduceCtorEq, Nat.reduceEqDiff, if_true, if_false, resV, resV.go, resV.gol, resGo_dd, dd_length, dd_take, dd_drop, dd_get, List.drop_zero, Rw_length, Rw_take, Rw_drop, Nat.zero_add, Nat.le_refl, true_and, and_true, and_self, nameAll, nameP, outP, outT, cntT, V.lin, D.lin, *, not_false_eq_true, List.not_mem_nil, List.mem_cons, reduceCtorEq, or_self, Nat.reduceEqDiff, List.map_cons, List.map_nil, GI2_Dset, GFunc_Dset, GProgram_Dset, GI3_Dset, LcIi64_Dset, LGI2_Dset]))
       refine gh_sw ?_
       refine sw_loop (ι := Nat × (List (List Int)) × (List Int) × (List GI3) × Int × Int × Int) 30000000 (by decide) (fun x : Nat × (List (List Int)) × (List Int) × (List GI3) × Int × Int × Int => [(.s 5, some (.v (.sl 10000000 3 0 x.2.2.2.1.length))), (.s 6, some (.v (.sl 640 1 0 x.2.1.length))), (.s 7, some (.v (.sl 896 1 0 x.2.2.1.length))), (.s 8, some (.v (V.int x.2.2.2.2.1))), (.s 9, some (.v (V.int x.2.2.2.2.2.1))), (.s 10, some (.v (V.int x.2.2.2.2.2.2))), (.r 640, some (.o 1 (dd (Rw (cL .own 1 (cI .i64)) x.2.1)))), (.r 896, some (.o 1 (dd (Rw (cI .i64) x.2.2.1)))), (.r 10000000, some (.o 3 (dd (Rw GI3.cells x.2.2.2.1))))]) (fun x => x.1) (fun x => Yes (spec_Loops.l3 x.1 x.2.1 x.2.2.1 x.2.2.2.1 x.2.2.2.2.1 x.2.2.2.2.2.1 x.2.2.2.2.2.2) o3) (_, _, _, _, _, _, _) ?_ h ?_ ?_
       · exact (by simp [slNL, C.inN, V.inN, V.inNs, V.inNss, inNss_dd, inNs_map_d])
       · simp only [SubL, putSt, lk, Res.s.injEq, Res.r.injEq, reduceCtorEq, Nat.reduceEqDiff, if_true, if_false, List.length_set, List.length_replicate]; repeat' (first | apply And.intro | rfl | trivial | (simp only [*]; done))
       rintro ⟨_ | k, a1, a2, a3, a4, a5, a6⟩ h
       · simp only [spec_Loops.l3] at h; exact h.none
       simp only [spec_Loops.l3] at h
)
    | (with_reducible refine here_next (N0 := 30000000) ?_
       skip
       (try (apply gh_resRow 640; (focus (simp only [putSt, lk, Res.s.injEq, Res.r.injEq, reduceCtorEq, Nat.reduceEqDiff, if_true, if_false]; try rfl)); (focus (first | (simp only [Rw_length, List.length_set]; omega) | (simp [Rw_length]; omega))); simp only [List.set_cons_zero, List.set_cons_succ, List.length_nil, List.length_cons, Nat.reduceAdd, Nat.reduceLeDiff, List.take_succ_cons, List.take_of_length_le, List.length_set, List.length_replicate, List.take_length, List.take_nil, List.take_zero, List.drop_nil, List.map_nil, List.map_cons, resSlotP, nameSlotP, Prog.wp, Prog.wp_bind, Prog.bind, Prog.ofO, putSt, lk, Res.s.injEq, Res.r.injEq, reduceCtorEq, Nat.reduceEqDiff, if_true, if_false, resV, resV.go, resV.gol, resGo_dd, dd_length, dd_take, dd_drop, dd_get, List.drop_zero, Rw_length, Rw_take, Rw_drop, Nat.zero_add, Nat.le_refl, true_and, and_true, and_self, nameAll, nameP, outP, outT, cntT, V.lin, D.lin, *, not_false_eq_true, List.not_mem_nil, List.mem_cons, reduceCtorEq, or_self, Nat.reduceEqDiff, List.map_cons, List.map_nil, GI2_Dset, GFunc_Dset, GProgram_Dset, GI3_Dset, LcIi64_Dset, LGI2_Dset]))
       refine nexts_to (_, _, _, _, _, _, _) (by decide) ?_ (Nat.lt_succ_self _) h ?_
       · exact (by simp [slNL, C.inN, V.inN, V.inNs, V.inNss, inNss_dd, inNs_map_d])
       · simp only [SubL, putSt, lk, Res.s.injEq, Res.r.injEq, reduceCtorEq, Nat.reduceEqDiff, if_true, if_false, List.length_set, List.length_replicate]; repeat' (first | apply And.intro | rfl | trivial | (simp only [*]; done)))
    | (with_reducible refine here_join (a := (.block 1 _)) (b := (.region 8 _ _)) ?_
       skip
       revert h
       with_reducible refine bind_elimY ?_
       intro o2 h hK2
       unfold spec_Loops.a2 at h
       refine sw_join (ι := (List (List Int)) × (List Int) × (List GI3) × Int) 20000000 (fun x : (List (List Int)) × (List Int) × (List GI3) × Int => [(.s 5, some (.v (.d (.row .own 3 (Rw GI3.cells x.2.2.1))))), (.s 6, some (.v (.sl 640 1 0 x.1.length))), (.s 7, some (.v (.sl 896 1 0 x.2.1.length))), (.s 8, some (.v (V.int x.2.2.2))), (.r 640, some (.o 1 (dd (Rw (cL .own 1 (cI .i64)) x.1)))), (.r 896, some (.o 1 (dd (Rw (cI .i64) x.2.1))))]) (fun x => Yes (some (x)) o2) ?_ ?_
       rotate_left
       rintro ⟨b1, b2, b3, b4⟩ h
       obtain rfl := h.get
       have h := hK2
       (try (simp only [Sum.elim_inl, Sum.elim_inr] at h))
       refine sw_gh ?_
       refine gh_nameSlot 5 ?_
       simp only [List.set_cons_zero, List.set_cons_succ, List.length_nil, List.length_cons, Nat.reduceAdd, Nat.reduceLeDiff, List.take_succ_cons, List.take_of_length_le, List.length_set, List.length_replicate, List.take_length, List.take_nil, List.take_zero, List.drop_nil, List.map_nil, List.map_cons, resSlotP, nameSlotP, Prog.wp, Prog.wp_bind, Prog.bind, Prog.ofO, putSt, lk, Res.s.injEq, Res.r.injEq, reduceCtorEq, Nat.reduceEqDiff, if_true, if_false, resV, resV.go, resV.gol, resGo_dd, dd_length, dd_take, dd_drop, dd_get, List.drop_zero, Rw_length, Rw_take, Rw_drop, Nat.zero_add, Nat.le_refl, true_and, and_true, and_self, nameAll, nameP, outP, outT, cntT, V.lin, D.lin, Nat.reduceAdd]
       refine gh_sw ?_
       skip)
    | (with_reducible refine here_meet (N0 := 20000000) ?_
       skip
       refine gh_resSlot 5 ?_
       simp only [List.set_cons_zero, List.set_cons_succ, List.length_nil, List.length_cons, Nat.reduceAdd, Nat.reduceLeDiff, List.take_succ_cons, List.take_of_length_le, List.length_set, List.length_replicate, List.take_length, List.take_nil, List.take_zero, List.drop_nil, List.map_nil, List.map_cons, resSlotP, nameSlotP, Prog.wp, Prog.wp_bind, Prog.bind, Prog.ofO, putSt, lk, Res.s.injEq, Res.r.injEq, reduceCtorEq, Nat.reduceEqDiff, if_true, if_false, resV, resV.go, resV.gol, resGo_dd, dd_length, dd_take, dd_drop, dd_get, List.drop_zero, Rw_length, Rw_take, Rw_drop, Nat.zero_add, Nat.le_refl, true_and, and_true, and_self, nameAll, nameP, outP, outT, cntT, V.lin, D.lin, *]
       (try (apply gh_resRow 640; (focus (simp only [putSt, lk, Res.s.injEq, Res.r.injEq, reduceCtorEq, Nat.reduceEqDiff, if_true, if_false]; try rfl)); (focus (first | (simp only [Rw_length, List.length_set]; omega) | (simp [Rw_length]; omega))); simp only [List.set_cons_zero, List.set_cons_succ, List.length_nil, List.length_cons, Nat.reduceAdd, Nat.reduceLeDiff, List.take_succ_cons, List.take_of_length_le, List.length_set, List.length_replicate, List.take_length, List.take_nil, List.take_zero, List.drop_nil, List.map_nil, List.map_cons, resSlotP, nameSlotP, Prog.wp, Prog.wp_bind, Prog.bind, Prog.ofO, putSt, lk, Res.s.injEq, Res.r.injEq, reduceCtorEq, Nat.reduceEqDiff, if_true, if_false, resV, resV.go, resV.gol, resGo_dd, dd_length, dd_take, dd_drop, dd_get, List.drop_zero, Rw_length, Rw_take, Rw_drop, Nat.zero_add, Nat.le_refl, true_and, and_true, and_self, nameAll, nameP, outP, outT, cntT, V.lin, D.lin, *, not_false_eq_true, List.not_mem_nil, List.mem_cons, reduceCtorEq, or_self, Nat.reduceEqDiff, List.map_cons, List.map_nil, GI2_Dset, GFunc_Dset, GProgram_Dset, GI3_Dset, LcIi64_Dset, LGI2_Dset]))
       refine meet_to (_, _, _, _) (by decide) ?_ h ?_
       · exact (by simp [slNL, C.inN, V.inN, V.inNs, V.inNss, inNss_dd, inNs_map_d])
       · simp only [SubL, putSt, lk, Res.s.injEq, Res.r.injEq, reduceCtorEq, Nat.reduceEqDiff, if_true, if_false, List.length_set, List.length_replicate]; repeat' (first | apply And.intro | rfl | trivial | (simp only [*]; done)))
    | (with_reducible refine here_loop (c := (.seq (.seq (.region 22 _ _) _) _)) ?_
       skip
       revert h
       with_reducible refine bind_elimY ?_
       intro o5 h hK5
       refine sw_loop (ι := Nat × (List GI3) × Int × Int) 50000000 (by decide) (fun x : Nat × (List GI3) × Int × Int => [(.s 5, some (.v (.sl 10000000 3 0 x.2.1.length))), (.s 12, some (.v (V.int x.2.2.1))), (.s 13, some (.v (V.int x.2.2.2))), (.r 10000000, some (.o 3 (dd (Rw GI3.cells x.2.1))))]) (fun x => x.1) (fun x => Yes (spec_Loops.l5 x.1 x.2.1 x.2.2.1 x.2.2.2) o5) (_, _, _, _) ?_ h ?_ ?_
       · exact (by simp [slNL, C.inN, V.inN, V.inNs, V.inNss, inNss_dd, inNs_map_d])
       · simp only [SubL, putSt, lk, Res.s.injEq, Res.r.injEq, reduceCtorEq, Nat.reduceEqDiff, if_true, if_false, List.length_set, List.length_replicate]; repeat' (first | apply And.intro | rfl | trivial | (simp only [*]; done))
       rintro ⟨_ | k, a1, a2, a3⟩ h
       · simp only [spec_Loops.l5] at h; exact h.none
       simp only [spec_Loops.l5] at h
)
    | (with_reducible refine here_next (N0 := 50000000) ?_
       skip
       refine nexts_to (_, _, _, _) (by decide) ?_ (Nat.lt_succ_self _) h ?_
       · exact (by simp [slNL, C.inN, V.inN, V.inNs, V.inNss, inNss_dd, inNs_map_d])
       · simp only [SubL, putSt, lk, Res.s.injEq, Res.r.injEq, reduceCtorEq, Nat.reduceEqDiff, if_true, if_false, List.length_set, List.length_replicate]; repeat' (first | apply And.intro | rfl | trivial | (simp only [*]; done)))
    | (with_reducible refine here_loop (c := (.seq (.seq (.region 19 _ _) _) _)) ?_
       skip
       revert h
       with_reducible refine bind_elimY ?_
       intro o4 h hK4
       refine sw_loop (ι := Nat × (List GI3) × Int) 40000000 (by decide) (fun x : Nat × (List GI3) × Int => [(.s 5, some (.v (.sl 10000000 3 0 x.2.1.length))), (.s 12, some (.v (V.int x.2.2))), (.r 10000000, some (.o 3 (dd (Rw GI3.cells x.2.1))))]) (fun x => x.1) (fun x => Yes (spec_Loops.l4 x.1 x.2.1 x.2.2) o4) (_, _, _) ?_ h ?_ ?_
       · exact (by simp [slNL, C.inN, V.inN, V.inNs, V.inNss, inNss_dd, inNs_map_d])
       · simp only [SubL, putSt, lk, Res.s.injEq, Res.r.injEq, reduceCtorEq, Nat.reduceEqDiff, if_true, if_false, List.length_set, List.length_replicate]; repeat' (first | apply And.intro | rfl | trivial | (simp only [*]; done))
       rintro ⟨_ | k, a1, a2⟩ h
       · simp only [spec_Loops.l4] at h; exact h.none
       simp only [spec_Loops.l4] at h
)
    | (with_reducible refine here_next (N0 := 40000000) ?_
       skip
       refine nexts_to (_, _, _) (by decide) ?_ (Nat.lt_succ_self _) h ?_
       · exact (by simp [slNL, C.inN, V.inN, V.inNs, V.inNss, inNss_dd, inNs_map_d])
       · simp only [SubL, putSt, lk, Res.s.injEq, Res.r.injEq, reduceCtorEq, Nat.reduceEqDiff, if_true, if_false, List.length_set, List.length_replicate]; repeat' (first | apply And.intro | rfl | trivial | (simp only [*]; done)))
    | (with_reducible refine here_loop (c := (.seq (.seq (.region 7 _ _) _) _)) ?_
       skip
       revert h
       with_reducible refine bind_elimY ?_
       intro o1 h hK1
       refine sw_gh ?_
       refine gh_resSlot 5 ?_
       simp only [List.set_cons_zero, List.set_cons_succ, List.length_nil, List.length_cons, Nat.reduceAdd, Nat.reduceLeDiff, List.take_succ_cons, List.take_of_length_le, List.length_set, List.length_replicate, List.take_length, List.take_nil, List.take_zero, List.drop_nil, List.map_nil, List.map_cons, resSlotP, nameSlotP, Prog.wp, Prog.wp_bind, Prog.bind, Prog.ofO, putSt, lk, Res.s.injEq, Res.r.injEq, reduceCtorEq, Nat.reduceEqDiff, if_true, if_false, resV, resV.go, resV.gol, resGo_dd, dd_length, dd_take, dd_drop, dd_get, List.drop_zero, Rw_length, Rw_take, Rw_drop, Nat.zero_add, Nat.le_refl, true_and, and_true, and_self, nameAll, nameP, outP, outT, cntT, V.lin, D.lin, *]
       (try (apply gh_resRow 640; (focus (simp only [putSt, lk, Res.s.injEq, Res.r.injEq, reduceCtorEq, Nat.reduceEqDiff, if_true, if_false]; try rfl)); (focus (first | (simp only [Rw_length, List.length_set]; omega) | (simp [Rw_length]; omega))); simp only [List.set_cons_zero, List.set_cons_succ, List.length_nil, List.length_cons, Nat.reduceAdd, Nat.reduceLeDiff, List.take_succ_cons, List.take_of_length_le, List.length_set, List.length_replicate, List.take_length, List.take_nil, List.take_zero, List.drop_nil, List.map_nil, List.map_cons, resSlotP, nameSlotP, Prog.wp, Prog.wp_bind, Prog.bind, Prog.ofO, putSt, lk, Res.s.injEq, Res.r.injEq, reduceCtorEq, Nat.reduceEqDiff, if_true, if_false, resV, resV.go, resV.gol, resGo_dd, dd_length, dd_take, dd_drop, dd_get, List.drop_zero, Rw_length, Rw_take, Rw_drop, Nat.zero_add, Nat.le_refl, true_and, and_true, and_self, nameAll, nameP, outP, outT, cntT, V.lin, D.lin, *, not_false_eq_true, List.not_mem_nil, List.mem_cons, reduceCtorEq, or_self, Nat.reduceEqDiff, List.map_cons, List.map_nil, GI2_Dset, GFunc_Dset, GProgram_Dset, GI3_Dset, LcIi64_Dset, LGI2_Dset]))
       refine gh_sw ?_
       refine sw_loop (ι := Nat × (List (List Int)) × (List Int) × (List GI3) × Int) 10000000 (by decide) (fun x : Nat × (List (List Int)) × (List Int) × (List GI3) × Int => [(.s 5, some (.v (.d (.row .own 3 (Rw GI3.cells x.2.2.2.1))))), (.s 6, some (.v (.sl 640 1 0 x.2.1.length))), (.s 7, some (.v (.sl 896 1 0 x.2.2.1.length))), (.s 8, some (.v (V.int x.2.2.2.2))), (.r 640, some (.o 1 (dd (Rw (cL .own 1 (cI .i64)) x.2.1)))), (.r 896, some (.o 1 (dd (Rw (cI .i64) x.2.2.1))))]) (fun x => x.1) (fun x => Yes (spec_Loops.l1 x.1 x.2.1 x.2.2.1 x.2.2.2.1 x.2.2.2.2) o1) (_, _, _, _, _) ?_ h ?_ ?_
       · exact (by simp [slNL, C.inN, V.inN, V.inNs, V.inNss, inNss_dd, inNs_map_d])
       · simp only [SubL, putSt, lk, Res.s.injEq, Res.r.injEq, reduceCtorEq, Nat.reduceEqDiff, if_true, if_false, List.length_set, List.length_replicate]; repeat' (first | apply And.intro | rfl | trivial | (simp only [*]; done))
       rintro ⟨_ | k, a1, a2, a3, a4⟩ h
       · simp only [spec_Loops.l1] at h; exact h.none
       simp only [spec_Loops.l1] at h
       refine sw_gh ?_
       refine gh_nameSlot 5 ?_
       simp only [List.set_cons_zero, List.set_cons_succ, List.length_nil, List.length_cons, Nat.reduceAdd, Nat.reduceLeDiff, List.take_succ_cons, List.take_of_length_le, List.length_set, List.length_replicate, List.take_length, List.take_nil, List.take_zero, List.drop_nil, List.map_nil, List.map_cons, resSlotP, nameSlotP, Prog.wp, Prog.wp_bind, Prog.bind, Prog.ofO, putSt, lk, Res.s.injEq, Res.r.injEq, reduceCtorEq, Nat.reduceEqDiff, if_true, if_false, resV, resV.go, resV.gol, resGo_dd, dd_length, dd_take, dd_drop, dd_get, List.drop_zero, Rw_length, Rw_take, Rw_drop, Nat.zero_add, Nat.le_refl, true_and, and_true, and_self, nameAll, nameP, outP, outT, cntT, V.lin, D.lin, Nat.reduceAdd]
       refine gh_sw ?_
)
    | (with_reducible refine here_next (N0 := 10000000) ?_
       skip
       refine gh_resSlot 5 ?_
       simp only [List.set_cons_zero, List.set_cons_succ, List.length_nil, List.length_cons, Nat.reduceAdd, Nat.reduceLeDiff, List.take_succ_cons, List.take_of_length_le, List.length_set, List.length_replicate, List.take_length, List.take_nil, List.take_zero, List.drop_nil, List.map_nil, List.map_cons, resSlotP, nameSlotP, Prog.wp, Prog.wp_bind, Prog.bind, Prog.ofO, putSt, lk, Res.s.injEq, Res.r.injEq, reduceCtorEq, Nat.reduceEqDiff, if_true, if_false, resV, resV.go, resV.gol, resGo_dd, dd_length, dd_take, dd_drop, dd_get, List.drop_zero, Rw_length, Rw_take, Rw_drop, Nat.zero_add, Nat.le_refl, true_and, and_true, and_self, nameAll, nameP, outP, outT, cntT, V.lin, D.lin, *]
       (try (apply gh_resRow 640; (focus (simp only [putSt, lk, Res.s.injEq, Res.r.injEq, reduceCtorEq, Nat.reduceEqDiff, if_true, if_false]; try rfl)); (focus (first | (simp only [Rw_length, List.length_set]; omega) | (simp [Rw_length]; omega))); simp only [List.set_cons_zero, List.set_cons_succ, List.length_nil, List.length_cons, Nat.reduceAdd, Nat.reduceLeDiff, List.take_succ_cons, List.take_of_length_le, List.length_set, List.length_replicate, List.take_length, List.take_nil, List.take_zero, List.drop_nil, List.map_nil, List.map_cons, resSlotP, nameSlotP, Prog.wp, Prog.wp_bind, Prog.bind, Prog.ofO, putSt, lk, Res.s.injEq, Res.r.injEq, reduceCtorEq, Nat.reduceEqDiff, if_true, if_false, resV, resV.go, resV.gol, resGo_dd, dd_length, dd_take, dd_drop, dd_get, List.drop_zero, Rw_length, Rw_take, Rw_drop, Nat.zero_add, Nat.le_refl, true_and, and_true, and_self, nameAll, nameP, outP, outT, cntT, V.lin, D.lin, *, not_false_eq_true, List.not_mem_nil, List.mem_cons, reduceCtorEq, or_self, Nat.reduceEqDiff, List.map_cons, List.map_nil, GI2_Dset, GFunc_Dset, GProgram_Dset, GI3_Dset, LcIi64_Dset, LGI2_Dset]))
       refine nexts_to (_, _, _, _, _) (by decide) ?_ (Nat.lt_succ_self _) h ?_
       · exact (by simp [slNL, C.inN, V.inN, V.inNs, V.inNss, inNss_dd, inNs_map_d])
       · simp only [SubL, putSt, lk, Res.s.injEq, Res.r.injEq, reduceCtorEq, Nat.reduceEqDiff, if_true, if_false, List.length_set, List.length_replicate]; repeat' (first | apply And.intro | rfl | trivial | (simp only [*]; done)))
    | with_reducible refine sw_seq ?_
    | with_reducible refine seqQ_ret ?_
    | with_reducible refine seqQ_exit ?_
    | (with_reducible refine gh_nilRow 4 .own 3 ?_ ?_
       · simp only [putSt, lk, Res.s.injEq, Res.r.injEq, reduceCtorEq, Nat.reduceEqDiff, if_true, if_false]; done
       skip)
    | ((with_reducible refine wp_ite ?_ ?_)
       all_goals (intro hc; (try (simp only [Bool.not_eq_true, Bool.not_eq_false] at hc)); (try (revert h; first | (with_reducible refine condt_elim hc ?_; intro h) | (with_reducible refine condf_elim hc ?_; intro h) | fail)); simp only [hc]))
    | (with_reducible apply regW_skip
       · simp only [dstOk, Nat.reduceLT]
       · rfl
       · simp only [putSt, lk, Res.s.injEq, Res.r.injEq, reduceCtorEq, Nat.reduceEqDiff, if_true, if_false]; done)
    | (with_reducible apply regW_yesN
       · simp only [dstOk, Nat.reduceLT]
       · rfl
       · simp only [putSt, lk, Res.s.injEq, Res.r.injEq, reduceCtorEq, Nat.reduceEqDiff, if_true, if_false]; done)
    | (with_reducible apply regW_no
       · simp only [dstOk, Nat.reduceLT]
       · rfl
       · simp only [putSt, lk, Res.s.injEq, Res.r.injEq, reduceCtorEq, Nat.reduceEqDiff, if_true, if_false, Bool.not_true, Bool.not_false]; done)
    | (with_reducible apply regW_guardN
       · simp only [dstOk, Nat.reduceLT]
       · rfl
       · simp only [putSt, lk, Res.s.injEq, Res.r.injEq, reduceCtorEq, Nat.reduceEqDiff, if_true, if_false]; rfl
       all_goals (intro hc; (try (simp only [Bool.not_true, Bool.not_false] at hc)); (try (revert h; first | (with_reducible refine condt_elim hc ?_; intro h) | (with_reducible refine condf_elim hc ?_; intro h) | fail))))
    | ((with_reducible apply sw_cond
        · simp only [putSt, lk, Res.s.injEq, Res.r.injEq, reduceCtorEq, Nat.reduceEqDiff, if_true, if_false]; rfl
        all_goals (intro hc; try (cases hc; done)))
       all_goals (try (revert h; first | (with_reducible refine condt_elim hc ?_; intro h) | (with_reducible refine condf_elim hc ?_; intro h) | fail)))
    | ((first
        | ((with_reducible refine gh_ret ?_)
           revert h
           with_reducible refine some_elim ?_
           rintro rfl)
        | (with_reducible refine here_call ?_
           revert h
           with_reducible refine bind_elim ?_
           intro t ht h
           (first
             | (refine call_dataE (c_spec_l04Is ht) ?_ rfl ?_
                · first | rfl | (simp; done))
             | (refine call_dataE (c_spec_l17Preds ht) ?_ rfl ?_
                · first | rfl | (simp; done))
             | (refine call_dataE (c_spec_l17Doms ht) ?_ rfl ?_
                · first | rfl | (simp; done))
             | (refine call_dataE (c_spec_l08Bit ht) ?_ rfl ?_
                · first | rfl | (simp; done))
             | (refine call_autoE (c_spec_l17Body ht) ?_ ?_ ?_
                · simp only [List.length_set, List.length_replicate, lendAL, lendA, Option.bind_some, Option.map_some, undd_dd, dd_length, dd_take, dd_drop, Rw_length, Rw_take, Rw_drop, Nat.zero_add, Nat.add_zero, Nat.le_refl, true_and, and_true, and_self, List.take_length, List.drop_zero, C.o.injEq, V.d.injEq, undd.unddR, List.getElem?_cons_zero, List.length_cons, List.length_nil, Nat.zero_le, D.lendL, D.lend, Md.lend, List.map_cons, List.map_nil, cI_lend, cB_lend, cS_lend, GI2_lend, GFunc_lend, GProgram_lend, GI3_lend, LcIi64_lend, LGI2_lend, List.take_of_length_le, putSt, lk, Res.s.injEq, Res.r.injEq, reduceCtorEq, Nat.reduceEqDiff, if_true, if_false, *]; first | rfl | done
                · first | rfl | (simp only [V.nb, V.nbL, D.nb, D.nbL, Md.nb, cI_nb, cB_nb, cS_nb, Bool.and_self, Bool.and_true, GI2_nb, GFunc_nb, GProgram_nb, GI3_nb, LcIi64_nb, LGI2_nb]; done)
                simp only [V.namesOf, V.namesOfL, List.foldl_cons, List.foldl_nil, List.nil_append, List.append_nil, List.cons_append])))
        | ((first | with_reducible apply regD_opLK [(640, none)] (dst := some 69) (op := .call { callee := .value (.func 49), args := _, argTypes := _ }) | with_reducible apply regW_opLK [(640, none)] (dst := some 69) (op := .call { callee := .value (.func 49), args := _, argTypes := _ }))
           · simp only [dstOk, Nat.reduceLT]
           · simp only [Nat.reduceAdd]; rfl
           intro k hk
           with_reducible apply pre_row 640
           · simp only [putSt, lk, Res.s.injEq, Res.r.injEq, reduceCtorEq, Nat.reduceEqDiff, if_true, if_false]; rfl
           · first | (simp only [Rw_length, List.length_set]; omega) | (simp [Rw_length]; omega)
           simp only [List.set_cons_zero, List.set_cons_succ, List.length_nil, List.length_cons, Nat.reduceAdd, Nat.reduceLeDiff, List.take_succ_cons, List.take_of_length_le, List.length_set, List.length_replicate, List.take_length, List.take_nil, List.take_zero, List.drop_nil, List.map_nil, List.map_cons, resSlotP, nameSlotP, Prog.wp, Prog.wp_bind, Prog.bind, Prog.ofO, putSt, lk, Res.s.injEq, Res.r.injEq, reduceCtorEq, Nat.reduceEqDiff, if_true, if_false, resV, resV.go, resV.gol, resGo_dd, dd_length, dd_take, dd_drop, dd_get, List.drop_zero, Rw_length, Rw_take, Rw_drop, Nat.zero_add, Nat.le_refl, true_and, and_true, and_self, nameAll, nameP, outP, outT, cntT, V.lin, D.lin, GI2_Dset, GFunc_Dset, GProgram_Dset, GI3_Dset, LcIi64_Dset, LGI2_Dset, *]
           with_reducible apply pre_nil)
        | (with_reducible apply regD_opK
           · simp only [dstOk, Nat.reduceLT]
           · simp only [Nat.reduceAdd]; rfl
           intro k hk)
        | (with_reducible apply regW_opK
           · simp only [dstOk, Nat.reduceLT]
           · simp only [Nat.reduceAdd]; rfl
           intro k hk)
        | skip)
       simp only [RetW, bn, opC, opP, fetchN, fetchP, fetchAll, fetchO, Prog.bind, Prog.wp, Prog.wp_bind, lk, nameP, nameAll, Value.oneCell', putSt, stepP, putP, Res.s.injEq, Res.r.injEq, reduceCtorEq, V.lin, V.linL, D.lin, isNil, binP, unP, BinOp.isShift, Prog.ofO, true_and, and_true, Nat.reduceAdd, Nat.reduceMul, Nat.reduceSub, Nat.reduceLT, Nat.reduceLeDiff, Nat.reduceEqDiff, if_true, if_false, ite_true, ite_false, Bool.false_eq_true, Bool.not_true, Bool.not_false, Bool.or_false, Bool.or_true, fieldAddrP, fieldP, indexAddrP, loadP, storeP, boxP, allocP, cellsP, asVal, setSeg, outP, outT, cntT, TyK.field, TyK.agg, zeroRow, V.ren, V.renL, forall_eq_or_imp, implies_true, false_implies, forall_const, and_self, true_or, minmaxP, lenP, lenOf, lenStr, V.asInt, decide_true, decide_false, sliceP, boundP, makeSliceP, convertP, appendP, rowsOfP, ontoP, sizeFits, V.rowSize, TyK.src, resV, resV.go, resV.gol, retP, retOne, retAll, resTo, objsAre, Option.map_eq_map, Function.const_apply, Int.reduceNeg, Int.reduceToNat, ty2, ty3, ty4, ty26, ty28, ty30, ty44, ty49, ty53, ty63, ty65, ty107, GFunc.cells, GI2.cells, GI3.cells, GProgram.cells, cI, cB, cS, cL, GI2_e, GFunc_e, GProgram_e, GI3_e, LcIi64_e, LGI2_e, buildP, buildSliceP, putParts, structPlaces, chunks, List.replicate, List.flatten_nil, List.flatten_cons, Option.bind_some, bb, GI2_b, GFunc_b, GProgram_b, GI3_b, LcIi64_b, LGI2_b, nilEqP, ne_eq, not_false_eq_true, not_true_eq_false, *]
       try (refine hk.use _ _ _ _ ?_; clear hk k))
    | fail)
  all_goals (try rfl)
  all_goals (try (simp; done))
  all_goals (try (simp_all; done))

end Go.Proofs.Ytdlaplgofgklnaa
namespace Go.Proofs.Ytdlaplgofgklnaa
open Go.Proofs Go.Proofs.Ytdlaplgofgklnaa.L
set_option maxHeartbeats 1000000
set_option linter.unusedSimpArgs false
set_option linter.unusedVariables false
set_option maxRecDepth 100000

def impl_prog_code_v0 (p0 : Gprog) (p1 : Int) : Option ((List GI2) × Gprog) :=
  (idx p0.program.funcs p1).bind fun m1 => some (m1.code, p0)

theorem c_impl_prog_code_v0 {p0 : Gprog} {p1 : Int} {r : (List GI2) × Gprog} (h : impl_prog_code_v0 p0 p1 = some r) : Con Try.prog 50 [.mp 0 2 0 0, V.int p1] [.o 2 [[.d (.row .bor 3 (Rw (GFunc.cells .bor) p0.program.funcs)), .d (.row .own 1 (Rw (cL .own 1 (cI .i64)) p0.h))]]] (.d (.row .bor 2 (Rw GI2.cells r.1))) [.o 2 [[.d (.row .bor 3 (Rw (GFunc.cells .bor) r.2.program.funcs)), .d (.row .own 1 (Rw (cL .own 1 (cI .i64)) r.2.h))]]] := by
  refine con_of_sw Try.func50 rfl Try.call50 (by simp [Try.ntmps50]) (by simp [V.inNs, V.inN]) (by simp [C.inN, V.inNss, V.inNs, V.inN, inNss_dd]) (by simp [V.inNs, V.inN]) (by simp [C.inN, V.inNss, V.inNs, V.inN, inNss_dd]) rfl ?_
  rw [Try.ntmps50, Try.results50]
  unfold impl_prog_code_v0 at h
  replace h := Yes.mk h
  simp only [entryS, entryO, Nat.reduceAdd, List.length_nil, List.length_cons]
  repeat' (first
    | with_reducible refine sw_reg ?_
    | with_reducible refine sw_ret ?_
    | with_reducible refine sw_skip ?_
    | with_reducible refine sw_block ?_
    | with_reducible refine sw_exit ?_
    | with_reducible refine seqQ_normal ?_
    | with_reducible refine blockQ_normal ?_
    | with_reducible refine blockQ_ret ?_
    | with_reducible refine blockQ_this ?_
    | with_reducible refine blockQ_other (by decide) ?_
    | with_reducible refine regW_nil ?_
    | with_reducible refine sw_draw mixed ?_
    | (with_reducible refine regD_nil ?_
       refine ⟨by kernel_rfl, ?_⟩)
    | with_reducible refine retQ_ret ?_
    | with_reducible refine retQ_normal ?_
    | (revert h; (first | ((with_reducible refine idx_elim ?_); intro m hm1 hm2 hm3 h; (try (simp only [Int.reduceToNat] at hm3)); (try (revert hm3; (with_reducible apply same_elim); (focus (with_reducible assumption)); rintro rfl)); (try (simp only [List.length_set, List.length_cons, List.length_nil, List.length_replicate, Nat.reduceAdd, Int.cast_ofNat_Int, Nat.zero_add, List.length_append] at hm2))) | (with_reducible refine sidx_elim ?_; intro m hm1 hm3 h) | (with_reducible refine gd_elim ?_; intro hg h; try (have hg2 := hg.2; have hg := hg.1; (try (simp only [Nat.reduceLeDiff] at hg2)); (try (revert hg2; (with_reducible refine toNat_elim hg ?_); intro hg2 hg4)); try (have hg3 := hg2.2; have hg2 := hg2.1; (try (simp only [Nat.reduceLeDiff] at hg3))))) | fail))
    | with_reducible refine sw_seq ?_
    | with_reducible refine seqQ_ret ?_
    | with_reducible refine seqQ_exit ?_
    | (with_reducible refine gh_nilRow 4 .own 2 ?_ ?_
       · simp only [putSt, lk, Res.s.injEq, Res.r.injEq, reduceCtorEq, Nat.reduceEqDiff, if_true, if_false]; done
       skip)
    | ((with_reducible refine wp_ite ?_ ?_)
       all_goals (intro hc; (try (simp only [Bool.not_eq_true, Bool.not_eq_false] at hc)); (try (revert h; first | (with_reducible refine condt_elim hc ?_; intro h) | (with_reducible refine condf_elim hc ?_; intro h) | fail)); simp only [hc]))
    | (with_reducible apply regW_skip
       · simp only [dstOk, Nat.reduceLT]
       · rfl
       · simp only [putSt, lk, Res.s.injEq, Res.r.injEq, reduceCtorEq, Nat.reduceEqDiff, if_true, if_false]; done)
    | (with_reducible apply regW_yesN
       · simp only [dstOk, Nat.reduceLT]
       · rfl
       · simp only [putSt, lk, Res.s.injEq, Res.r.injEq, reduceCtorEq, Nat.reduceEqDiff, if_true, if_false]; done)
    | (with_reducible apply regW_no
       · simp only [dstOk, Nat.reduceLT]
       · rfl
       · simp only [putSt, lk, Res.s.injEq, Res.r.injEq, reduceCtorEq, Nat.reduceEqDiff, if_true, if_false, Bool.not_true, Bool.not_false]; done)
    | (with_reducible apply regW_guardN
       · simp only [dstOk, Nat.reduceLT]
       · rfl
       · simp only [putSt, lk, Res.s.injEq, Res.r.injEq, reduceCtorEq, Nat.reduceEqDiff, if_true, if_false]; rfl
       all_goals (intro hc; (try (simp only [Bool.not_true, Bool.not_false] at hc)); (try (revert h; first | (with_reducible refine condt_elim hc ?_; intro h) | (with_reducible refine condf_elim hc ?_; intro h) | fail))))
    | ((with_reducible apply sw_cond
        · simp only [putSt, lk, Res.s.injEq, Res.r.injEq, reduceCtorEq, Nat.reduceEqDiff, if_true, if_false]; rfl
        all_goals (intro hc; try (cases hc; done)))
       all_goals (try (revert h; first | (with_reducible refine condt_elim hc ?_; intro h) | (with_reducible refine condf_elim hc ?_; intro h) | fail)))
    | ((first
        | ((with_reducible refine gh_ret ?_)
           revert h
           with_reducible refine some_elim ?_
           rintro rfl)
        | (with_reducible apply regD_opK
           · simp only [dstOk, Nat.reduceLT]
           · simp only [Nat.reduceAdd]; rfl
           intro k hk)
        | (with_reducible apply regW_opK
           · simp only [dstOk, Nat.reduceLT]
           · simp only [Nat.reduceAdd]; rfl
           intro k hk)
        | skip)
       simp only [RetW, bn, opC, opP, fetchN, fetchP, fetchAll, fetchO, Prog.bind, Prog.wp, Prog.wp_bind, lk, nameP, nameAll, Value.oneCell', putSt, stepP, putP, Res.s.injEq, Res.r.injEq, reduceCtorEq, V.lin, V.linL, D.lin, isNil, binP, unP, BinOp.isShift, Prog.ofO, true_and, and_true, Nat.reduceAdd, Nat.reduceMul, Nat.reduceSub, Nat.reduceLT, Nat.reduceLeDiff, Nat.reduceEqDiff, if_true, if_false, ite_true, ite_false, Bool.false_eq_true, Bool.not_true, Bool.not_false, Bool.or_false, Bool.or_true, fieldAddrP, fieldP, indexAddrP, loadP, storeP, boxP, allocP, cellsP, asVal, setSeg, outP, outT, cntT, TyK.field, TyK.agg, zeroRow, V.ren, V.renL, forall_eq_or_imp, implies_true, false_implies, forall_const, and_self, true_or, minmaxP, lenP, lenOf, lenStr, V.asInt, decide_true, decide_false, sliceP, boundP, makeSliceP, convertP, appendP, rowsOfP, ontoP, sizeFits, V.rowSize, TyK.src, resV, resV.go, resV.gol, retP, retOne, retAll, resTo, objsAre, Option.map_eq_map, Function.const_apply, Int.reduceNeg, Int.reduceToNat, ty2, ty26, ty28, ty30, ty53, ty63, ty65, ty68, ty107, ty122, GFunc.cells, GI2.cells, GProgram.cells, Gprog.cells, cI, cB, cS, cL, GI2_e, GFunc_e, GProgram_e, Gprog_e, LcIi64_e, LGI2_e, nilEqP, ne_eq, not_false_eq_true, not_true_eq_false, *]
       try (refine hk.use _ _ _ _ ?_; clear hk k))
    | fail)
  all_goals (try rfl)
  all_goals (try (simp; done))
  all_goals (try (simp_all; done))

end Go.Proofs.Ytdlaplgofgklnaa
namespace Go.Proofs.Ytdlaplgofgklnaa
open Go.Proofs Go.Proofs.Ytdlaplgofgklnaa.L
set_option maxHeartbeats 1000000
set_option linter.unusedSimpArgs false
set_option linter.unusedVariables false
set_option maxRecDepth 100000

def impl_prog_body.l1 (rec : Gprog → Int → Int → Int → Int → Option (Int)) : Nat → (List Int) → Gprog → Int → Int → Int → Int → Int → Option (Int)
  | 0, _, _, _, _, _, _, _ => none
  | k + 1, a1, a2, a3, a4, a5, a6, a7 => cond ((decide (a7 < a6))) ((idx a1 a7).bind fun m2 => (rec a2 a3 a4 m2 a5).bind fun t3 => impl_prog_body.l1 rec k a1 a2 a3 a4 t3 a6 ((IntKind.i64.wrap (a7 + 1)))) (some (a5))

def impl_prog_body : Nat → Gprog → Int → Int → Int → Int → Option (Int)
  | 0, _, _, _, _, _ => none
  | k + 1, p0, p1, p2, p3, p4 => gd (0 ≤ p3) (cond ((((iand .i64 ((ishr .i64 p4 p3)) 1)) == 1)) (some p4) (gd (0 ≤ p3) ((impl_prog_preds k p0 p1 p3).bind fun t1 => (impl_prog_body.l1 (impl_prog_body k) k t1 p0 p1 p2 ((ior .i64 p4 ((ishl .i64 1 p3)))) ((t1.length : Int)) 0).bind fun o1 => some o1)))

theorem c_impl_prog_body {k : Nat} {p0 : Gprog} {p1 : Int} {p2 : Int} {p3 : Int} {p4 : Int} {r : Int} (h : impl_prog_body k p0 p1 p2 p3 p4 = some r) : Con Try.prog 51 [.d (.ptr .bor [.row .bor 3 (Rw (GFunc.cells .bor) p0.program.funcs), .row .bor 1 (Rw (cL .bor 1 (cI .i64)) p0.h)]), V.int p1, V.int p2, V.int p3, V.int p4] [] (V.int r) [] := by
  induction k generalizing p0 p1 p2 p3 p4 r with
  | zero => simp only [impl_prog_body] at h; cases h
  | succ kr ih =>
  refine con_of_sw Try.func51 rfl Try.call51 (by simp [Try.ntmps51]) (by simp [V.inNs, V.inN]) (by simp [C.inN, V.inNss, V.inNs, V.inN, inNss_dd]) (by simp [V.inNs, V.inN]) (by simp [C.inN, V.inNss, V.inNs, V.inN, inNss_dd]) rfl ?_
  rw [Try.ntmps51, Try.results51]
  simp only [impl_prog_body] at h
  replace h := Yes.mk h
  simp only [entryS, entryO, Nat.reduceAdd, List.length_nil, List.length_cons]
  repeat' (first
    | with_reducible refine sw_reg ?_
    | with_reducible refine sw_ret ?_
    | with_reducible refine sw_skip ?_
    | with_reducible refine sw_block ?_
    | with_reducible refine sw_exit ?_
    | with_reducible refine seqQ_normal ?_
    | with_reducible refine blockQ_normal ?_
    | with_reducible refine blockQ_ret ?_
    | with_reducible refine blockQ_this ?_
    | with_reducible refine blockQ_other (by decide) ?_
    | with_reducible refine regW_nil ?_
    | with_reducible refine sw_draw mixed ?_
    | (with_reducible refine regD_nil ?_
       refine ⟨by kernel_rfl, ?_⟩)
    | with_reducible refine retQ_ret ?_
    | with_reducible refine retQ_normal ?_
    | (revert h; (first | ((with_reducible refine idx_elim ?_); intro m hm1 hm2 hm3 h; (try (simp only [Int.reduceToNat] at hm3)); (try (revert hm3; (with_reducible apply same_elim); (focus (with_reducible assumption)); rintro rfl)); (try (simp only [List.length_set, List.length_cons, List.length_nil, List.length_replicate, Nat.reduceAdd, Int.cast_ofNat_Int, Nat.zero_add, List.length_append] at hm2))) | (with_reducible refine sidx_elim ?_; intro m hm1 hm3 h) | (with_reducible refine gd_elim ?_; intro hg h; try (have hg2 := hg.2; have hg := hg.1; (try (simp only [Nat.reduceLeDiff] at hg2)); (try (revert hg2; (with_reducible refine toNat_elim hg ?_); intro hg2 hg4)); try (have hg3 := hg2.2; have hg2 := hg2.1; (try (simp only [Nat.reduceLeDiff] at hg3))))) | fail))
    | ((first | with_reducible refine seqQ_ret (K := (fun st1 n1 => Gh st1 n1 (NextS _ 10000000 _ _ _ _))) ?_ | with_reducible refine seqQ_exit (K := (fun st1 n1 => Gh st1 n1 (NextS _ 10000000 _ _ _ _))) ?_)
       obtain rfl := h.get
       have h := hK1
       (try (simp only [Sum.elim_inl, Sum.elim_inr] at h)))
    | (with_reducible refine here_loop (c := (.seq (.region 5 _ _) _)) ?_
       skip
       revert h
       with_reducible refine bind_elimY ?_
       intro o1 h hK1
       refine sw_loop (ι := Nat × (List Int) × Gprog × Int × Int × Int × Int × Int) 10000000 (by decide) (fun x : Nat × (List Int) × Gprog × Int × Int × Int × Int × Int => [(.s 0, some (.v (.d (.ptr .bor [.row .bor 3 (Rw (GFunc.cells .bor) x.2.2.1.program.funcs), .row .bor 1 (Rw (cL .bor 1 (cI .i64)) x.2.2.1.h)])))), (.s 1, some (.v (V.int x.2.2.2.1))), (.s 2, some (.v (V.int x.2.2.2.2.1))), (.s 4, some (.v (V.int x.2.2.2.2.2.1))), (.s 26, some (.v (.sl 896 1 0 x.2.1.length))), (.s 27, some (.v (V.int x.2.2.2.2.2.2.1))), (.s 28, some (.v (V.int x.2.2.2.2.2.2.2))), (.r 896, some (.o 1 (dd (Rw (cI .i64) x.2.1))))]) (fun x => x.1) (fun x => Yes (impl_prog_body.l1 (impl_prog_body kr) x.1 x.2.1 x.2.2.1 x.2.2.2.1 x.2.2.2.2.1 x.2.2.2.2.2.1 x.2.2.2.2.2.2.1 x.2.2.2.2.2.2.2) o1) (_, _, _, _, _, _, _, _) ?_ h ?_ ?_
       · exact (by simp [slNL, C.inN, V.inN, V.inNs, V.inNss, inNss_dd, inNs_map_d])
       · simp only [SubL, putSt, lk, Res.s.injEq, Res.r.injEq, reduceCtorEq, Nat.reduceEqDiff, if_true, if_false, List.length_set, List.length_replicate]; repeat' (first | apply And.intro | rfl | trivial | (simp only [*]; done))
       rintro ⟨_ | k, a1, a2, a3, a4, a5, a6, a7⟩ h
       · simp only [impl_prog_body.l1] at h; exact h.none
       simp only [impl_prog_body.l1] at h
)
    | (with_reducible refine here_next (N0 := 10000000) ?_
       skip
       refine nexts_to (_, _, _, _, _, _, _, _) (by decide) ?_ (Nat.lt_succ_self _) h ?_
       · exact (by simp [slNL, C.inN, V.inN, V.inNs, V.inNss, inNss_dd, inNs_map_d])
       · simp only [SubL, putSt, lk, Res.s.injEq, Res.r.injEq, reduceCtorEq, Nat.reduceEqDiff, if_true, if_false, List.length_set, List.length_replicate]; repeat' (first | apply And.intro | rfl | trivial | (simp only [*]; done)))
    | with_reducible refine sw_seq ?_
    | with_reducible refine seqQ_ret ?_
    | with_reducible refine seqQ_exit ?_
    | ((with_reducible refine wp_ite ?_ ?_)
       all_goals (intro hc; (try (simp only [Bool.not_eq_true, Bool.not_eq_false] at hc)); (try (revert h; first | (with_reducible refine condt_elim hc ?_; intro h) | (with_reducible refine condf_elim hc ?_; intro h) | fail)); simp only [hc]))
    | (with_reducible apply regW_skip
       · simp only [dstOk, Nat.reduceLT]
       · rfl
       · simp only [putSt, lk, Res.s.injEq, Res.r.injEq, reduceCtorEq, Nat.reduceEqDiff, if_true, if_false]; done)
    | (with_reducible apply regW_yesN
       · simp only [dstOk, Nat.reduceLT]
       · rfl
       · simp only [putSt, lk, Res.s.injEq, Res.r.injEq, reduceCtorEq, Nat.reduceEqDiff, if_true, if_false]; done)
    | (with_reducible apply regW_no
       · simp only [dstOk, Nat.reduceLT]
       · rfl
       · simp only [putSt, lk, Res.s.injEq, Res.r.injEq, reduceCtorEq, Nat.reduceEqDiff, if_true, if_false, Bool.not_true, Bool.not_false]; done)
    | (with_reducible apply regW_guardN
       · simp only [dstOk, Nat.reduceLT]
       · rfl
       · simp only [putSt, lk, Res.s.injEq, Res.r.injEq, reduceCtorEq, Nat.reduceEqDiff, if_true, if_false]; rfl
       all_goals (intro hc; (try (simp only [Bool.not_true, Bool.not_false] at hc)); (try (revert h; first | (with_reducible refine condt_elim hc ?_; intro h) | (with_reducible refine condf_elim hc ?_; intro h) | fail))))
    | ((with_reducible apply sw_cond
        · simp only [putSt, lk, Res.s.injEq, Res.r.injEq, reduceCtorEq, Nat.reduceEqDiff, if_true, if_false]; rfl
        all_goals (intro hc; try (cases hc; done)))
       all_goals (try (revert h; first | (with_reducible refine condt_elim hc ?_; intro h) | (with_reducible refine condf_elim hc ?_; intro h) | fail)))
    | ((first
        | ((with_reducible refine gh_ret ?_)
           revert h
           with_reducible refine some_elim ?_
           rintro rfl)
        | (with_reducible refine here_call ?_
           revert h
           with_reducible refine bind_elim ?_
           intro t ht h
           (first
             | (refine call_dataE (c_impl_prog_preds ht) ?_ rfl ?_
                · first | rfl | (simp; done))
             | (refine call_dataE (ih ht) ?_ rfl ?_
                · first | rfl | (simp; done))))
        | (with_reducible apply regD_opK
           · simp only [dstOk, Nat.reduceLT]
           · simp only [Nat.reduceAdd]; rfl
           intro k hk)
        | (with_reducible apply regW_opK
           · simp only [dstOk, Nat.reduceLT]
           · simp only [Nat.reduceAdd]; rfl
           intro k hk)
        | skip)
       simp only [RetW, bn, opC, opP, fetchN, fetchP, fetchAll, fetchO, Prog.bind, Prog.wp, Prog.wp_bind, lk, nameP, nameAll, Value.oneCell', putSt, stepP, putP, Res.s.injEq, Res.r.injEq, reduceCtorEq, V.lin, V.linL, D.lin, isNil, binP, unP, BinOp.isShift, Prog.ofO, true_and, and_true, Nat.reduceAdd, Nat.reduceMul, Nat.reduceSub, Nat.reduceLT, Nat.reduceLeDiff, Nat.reduceEqDiff, if_true, if_false, ite_true, ite_false, Bool.false_eq_true, Bool.not_true, Bool.not_false, Bool.or_false, Bool.or_true, fieldAddrP, fieldP, indexAddrP, loadP, storeP, boxP, allocP, cellsP, asVal, setSeg, outP, outT, cntT, TyK.field, TyK.agg, zeroRow, V.ren, V.renL, forall_eq_or_imp, implies_true, false_implies, forall_const, and_self, true_or, minmaxP, lenP, lenOf, lenStr, V.asInt, decide_true, decide_false, sliceP, boundP, makeSliceP, convertP, appendP, rowsOfP, ontoP, sizeFits, V.rowSize, TyK.src, resV, resV.go, resV.gol, retP, retOne, retAll, resTo, objsAre, Option.map_eq_map, Function.const_apply, Int.reduceNeg, Int.reduceToNat, ty2, ty3, ty26, ty28, ty30, ty53, ty63, ty65, ty68, ty107, ty122, GFunc.cells, GI2.cells, GProgram.cells, Gprog.cells, cI, cB, cS, cL, GI2_e, GFunc_e, GProgram_e, Gprog_e, LcIi64_e, LGI2_e, shiftBin_shl, shiftBin_shr, intBin_quo, intBin_rem, Int.reduceLT, Int.reduceEq, not_false_eq_true, Int.not_lt, *]
       try (refine hk.use _ _ _ _ ?_; clear hk k))
    | fail)
  all_goals (try rfl)
  all_goals (try (simp; done))
  all_goals (try (simp_all; done))

end Go.Proofs.Ytdlaplgofgklnaa
namespace Go.Proofs.Ytdlaplgofgklnaa
open Go.Proofs Go.Proofs.Ytdlaplgofgklnaa.L
set_option maxHeartbeats 1000000
set_option linter.unusedSimpArgs false
set_option linter.unusedVariables false
set_option maxRecDepth 100000

def impl_Loops.l3 : Nat → Gprog → (List Int) → (List GI3) → (List Int) → Int → Int → Int → Bool → Int → Int → Int → Int → Option (Gprog × (List Int) × (List GI3) × Int × Int × Int × Bool × Int × Int)
  | 0, _, _, _, _, _, _, _, _, _, _, _, _ => none
  | k + 1, a1, a2, a3, a4, a5, a6, a7, a8, a9, a10, a11, a12 => cond ((decide (a12 < a11))) ((idx a4 a12).bind fun m5 => (idx a2 m5).bind fun m6 => gd (0 ≤ a6) (cond ((((iand .i64 ((ishr .i64 m6 a6)) 1)) == 1)) ((impl_prog_body k a1 a5 a6 m5 a7).bind fun t7 => impl_Loops.l3 k a1 a2 a3 a4 a5 a6 t7 true a9 a10 a11 ((IntKind.i64.wrap (a12 + 1)))) (impl_Loops.l3 k a1 a2 a3 a4 a5 a6 a7 a8 a9 a10 a11 ((IntKind.i64.wrap (a12 + 1)))))) (some (a1, a2, a3, a5, a6, a7, a8, a9, a10))

def impl_Loops.a2 (k : Nat) (a1 : Gprog) (a2 : (List Int)) (a3 : (List GI3)) (a4 : Int) (a5 : Int) (a6 : Int) : Option (Gprog × (List Int) × Int × (List GI3) × Int × Int) :=
  gd (0 ≤ a6) ((impl_prog_preds k a1 a4 a6).bind fun t4 => (impl_Loops.l3 k a1 a2 a3 t4 a4 a6 ((ishl .i64 1 a6)) false a5 a6 ((t4.length : Int)) 0).bind fun o3 => cond o3.2.2.2.2.2.2.1 (gd ((o3.2.2.1.length + 1) * 24 ≤ 35184372088832 ∧ o3.2.2.1.length + 1 ≤ 35184372088832) (some (o3.1, o3.2.1, o3.2.2.2.1, (o3.2.2.1 ++ [(⟨o3.2.2.2.2.1, o3.2.2.2.2.2.1, 0⟩ : GI3)]), o3.2.2.2.2.2.2.2.1, o3.2.2.2.2.2.2.2.2))) (some (o3.1, o3.2.1, o3.2.2.2.1, o3.2.2.1, o3.2.2.2.2.2.2.2.1, o3.2.2.2.2.2.2.2.2)))

def impl_Loops.l1 : Nat → Gprog → (List Int) → Int → (List GI3) → Int → Int → Option ((List GI3))
  | 0, _, _, _, _, _, _ => none
  | k + 1, a1, a2, a3, a4, a5, a6 => cond ((decide (a6 < a5))) ((impl_Loops.a2 k a1 a2 a4 a3 a5 a6).bind fun o2 => impl_Loops.l1 k o2.1 o2.2.1 o2.2.2.1 o2.2.2.2.1 o2.2.2.2.2.1 ((IntKind.i64.wrap (o2.2.2.2.2.2 + 1)))) (some (a4))

def impl_Loops.l5 : Nat → (List GI3) → Int → Int → Int → Int → Int → Option ((List GI3) × Int × Int)
  | 0, _, _, _, _, _, _ => none
  | k + 1, a1, a2, a3, a4, a5, a6 => cond ((decide (a6 < a5))) ((idx a1 a6).bind fun m8 => (idx a1 a2).bind fun m9 => gd (0 ≤ m9.a) (impl_Loops.l5 k ((a1.set a2.toNat ((⟨m9.a, m9.b, (IntKind.i64.wrap (m9.c + ((iand .i64 ((ishr .i64 m8.b m9.a)) 1))))⟩ : GI3)))) a2 a3 a4 a5 ((IntKind.i64.wrap (a6 + 1))))) (some (a1, a3, a4))

def impl_Loops.l4 : Nat → (List GI3) → Int → Int → Option ((List GI3))
  | 0, _, _, _ => none
  | k + 1, a1, a2, a3 => cond ((decide (a3 < a2))) ((impl_Loops.l5 k a1 a3 a2 a3 ((a1.length : Int)) 0).bind fun o5 => impl_Loops.l4 k o5.1 o5.2.1 ((IntKind.i64.wrap (o5.2.2 + 1)))) (some (a1))

def impl_Loops (k : Nat) (p0 : GProgram) (p1 : Int) : Option ((List GI3)) :=
  (impl_knownFunc k p0 p1).bind fun t1 => cond ((!t1.2)) (some []) ((impl_prog_doms k t1.1 p1).bind fun t2 => (impl_prog_code_v0 t1.1 p1).bind fun t3 => (impl_Loops.l1 k t3.2 t2 p1 [] ((t3.1.length : Int)) 0).bind fun o1 => (impl_Loops.l4 k o1 ((o1.length : Int)) 0).bind fun o4 => some o4)

theorem c_impl_Loops {k : Nat} {p0 : GProgram} {p1 : Int} {r : (List GI3)} (h : impl_Loops k p0 p1 = some r) : Con Try.prog 23 [.agg [.d (.row .bor 3 (Rw (GFunc.cells .bor) p0.funcs))], V.int p1] [] (.d (.row .own 3 (Rw GI3.cells r))) [] := by
  refine con_of_sw Try.func23 rfl Try.call23 (by simp [Try.ntmps23]) (by simp [V.inNs, V.inN]) (by simp [C.inN, V.inNss, V.inNs, V.inN, inNss_dd]) (by simp [V.inNs, V.inN]) (by simp [C.inN, V.inNss, V.inNs, V.inN, inNss_dd]) rfl ?_
  rw [Try.ntmps23, Try.results23]
  unfold impl_Loops at h
  replace h := Yes.mk h
  simp only [entryS, entryO, Nat.reduceAdd, List.length_nil, List.length_cons]
  repeat' (first
    | with_reducible refine sw_reg ?_
    | with_reducible refine sw_ret ?_
    | with_reducible refine sw_skip ?_
    | with_reducible refine sw_block ?_
    | with_reducible refine sw_exit ?_
    | with_reducible refine seqQ_normal ?_
    | with_reducible refine blockQ_normal ?_
    | with_reducible refine blockQ_ret ?_
    | with_reducible refine blockQ_this ?_
    | with_reducible refine blockQ_other (by decide) ?_
    | with_reducible refine regW_nil ?_
    | with_reducible refine sw_draw mixed ?_
    | (with_reducible refine regD_nil ?_
       refine ⟨by kernel_rfl, ?_⟩)
    | with_reducible refine retQ_ret ?_
    | with_reducible refine retQ_normal ?_
    | (revert h; (first | ((with_reducible refine idx_elim ?_); intro m hm1 hm2 hm3 h; (try (simp only [Int.reduceToNat] at hm3)); (try (revert hm3; (with_reducible apply same_elim); (focus (with_reducible assumption)); rintro rfl)); (try (simp only [List.length_set, List.length_cons, List.length_nil, List.length_replicate, Nat.reduceAdd, Int.cast_ofNat_Int, Nat.zero_add, List.length_append] at hm2))) | (with_reducible refine sidx_elim ?_; intro m hm1 hm3 h) | (with_reducible refine gd_elim ?_; intro hg h; try (have hg2 := hg.2; have hg := hg.1; (try (simp only [Nat.reduceLeDiff] at hg2)); (try (revert hg2; (with_reducible refine toNat_elim hg ?_); intro hg2 hg4)); try (have hg3 := hg2.2; have hg2 := hg2.1; (try (simp only [Nat.reduceLeDiff] at hg3))))) | fail))
    | ((first | with_reducible refine seqQ_ret (K := (fun st1 n1 => Gh st1 n1 (NextS _ 30000000 _ _ _ _))) ?_ | with_reducible refine seqQ_exit (K := (fun st1 n1 => Gh st1 n1 (NextS _ 30000000 _ _ _ _))) ?_)
       obtain rfl := h.get
       have h := hK3
       (try (simp only [Sum.elim_inl, Sum.elim_inr] at h)))
    | ((first | with_reducible refine seqQ_ret (K := (fun st1 n1 => Gh st1 n1 (MeetA _ 20000000 _ _))) ?_ | with_reducible refine seqQ_exit (K := (fun st1 n1 => Gh st1 n1 (MeetA _ 20000000 _ _))) ?_)
       obtain rfl := h.get
       have h := hK2
       (try (simp only [Sum.elim_inl, Sum.elim_inr] at h)))
    | ((first | with_reducible refine seqQ_ret (K := (fun st1 n1 => Gh st1 n1 (NextS _ 50000000 _ _ _ _))) ?_ | with_reducible refine seqQ_exit (K := (fun st1 n1 => Gh st1 n1 (NextS _ 50000000 _ _ _ _))) ?_)
       obtain rfl := h.get
       have h := hK5
       (try (simp only [Sum.elim_inl, Sum.elim_inr] at h)))
    | ((first | with_reducible refine seqQ_ret (K := (fun st1 n1 => Gh st1 n1 (NextS _ 40000000 _ _ _ _))) ?_ | with_reducible refine seqQ_exit (K := (fun st1 n1 => Gh st1 n1 (NextS _ 40000000 _ _ _ _))) ?_)
       obtain rfl := h.get
       have h := hK4
       (try (simp only [Sum.elim_inl, Sum.elim_inr] at h)))
    | ((first | with_reducible refine seqQ_ret (K := (fun st1 n1 => Gh st1 n1 (NextS _ 10000000 _ _ _ _))) ?_ | with_reducible refine seqQ_exit (K := (fun st1 n1 => Gh st1 n1 (NextS _ 10000000 _ _ _ _))) ?_)
       obtain rfl := h.get
       have h := hK1
       (try (simp only [Sum.elim_inl, Sum.elim_inr] at h)))
    | (with_reducible refine here_loop (c := (.seq (.region 13 _ _) _)) ?_
       skip
       revert h
       with_reducible refine bind_elimY ?_
       intro o3 h hK3
       refine sw_loop (ι := Nat × Gprog × (List Int) × (List GI3) × (List Int) × Int × Int × Int × Bool × Int × Int × Int × Int) 30000000 (by decide) (fun x : Nat × Gprog × (List Int) × (List GI3) × (List Int) × Int × Int × Int × Bool × Int × Int × Int × Int => [(.s 1, some (.v (V.int x.2.2.2.2.2.1))), (.s 5, some (.v (.mp 256 2 0 0))), (.s 7, some (.v (.sl 896 1 0 x.2.2.1.length))), (.s 8, some (.v (.sl 10000000 3 0 x.2.2.2.1.length))), (.s 10, some (.v (V.int x.2.2.2.2.2.2.1))), (.s 11, some (.v (V.int x.2.2.2.2.2.2.2.1))), (.s 12, some (.v (V.bool x.2.2.2.2.2.2.2.2.1))), (.s 32, some (.v (V.int x.2.2.2.2.2.2.2.2.2.1))), (.s 33, some (.v (V.int x.2.2.2.2.2.2.2.2.2.2.1))), (.s 42, some (.v (.sl 10000832 1 0 x.2.2.2.2.1.length))), (.s 43, some (.v (V.int x.2.2.2.2.2.2.2.2.2.2.2.1))), (.s 44, some (.v (V.int x.2.2.2.2.2.2.2.2.2.2.2.2))), (.r 256, some (.o 2 [[.d (.row .bor 3 (Rw (GFunc.cells .bor) x.2.1.program.funcs)), .d (.row .own 1 (Rw (cL .own 1 (cI .i64)) x.2.1.h))]])), (.r 896, some (.o 1 (dd (Rw (cI .i64) x.2.2.1)))), (.r 10000000, some (.o 3 (dd (Rw GI3.cells x.2.2.2.1)))), (.r 10000832, some (.o 1 (dd (Rw (cI .i64) x.2.2.2.2.1))))]) (fun x => x.1) (fun x => Yes (impl_Loops.l3 x.1 x.2.1 x.2.2.1 x.2.2.2.1 x.2.2.2.2.1 x.2.2.2.2.2.1 x.2.2.2.2.2.2.1 x.2.2.2.2.2.2.2.1 x.2.2.2.2.2.2.2.2.1 x.2.2.2.2.2.2.2.2.2.1 x.2.2.2.2.2.2.2.2.2.2.1 x.2.2.2.2.2.2.2.2.2.2.2.1 x.2.2.2.2.2.2.2.2.2.2.2.2) o3) (_, _, _, _, _, _, _, _, _, _, _, _, _) ?_ h ?_ ?_
       · exact (by simp [slNL, C.inN, V.inN, V.inNs, V.inNss, inNss_dd, inNs_map_d])
       · simp only [SubL, putSt, lk, Res.s.injEq, Res.r.injEq, reduceCtorEq, Nat.reduceEqDiff, if_true, if_false, List.length_set, List.length_replicate]; repeat' (first | apply And.intro | rfl | trivial | (simp only [*]; done))
       rintro ⟨_ | k, a1, a2, a3, a4, a5, a6, a7, a8, a9, a10, a11, a12⟩ h
       · simp only [impl_Loops.l3] at h; exact h.none
       simp only [impl_Loops.l3] at h
)
    | (with_reducible refine here_next (N0 := 30000000) ?_
       skip
       refine nexts_to (_, _, _, _, _, _, _, _, _, _, _, _, _) (by decide) ?_ (Nat.lt_succ_self _) h ?_
       · exact (by simp [slNL, C.inN, V.inN, V.inNs, V.inNss, inNss_dd, inNs_map_d])
       · simp only [SubL, putSt, lk, Res.s.injEq, Res.r.injEq, reduceCtorEq, Nat.reduceEqDiff, if_true, if_false, List.length_set, List.length_replicate]; repeat' (first | apply And.intro | rfl | trivial | (simp only [*]; done)))
    | (with_reducible refine here_join (a := (.block 1 _)) (b := (.region 21 _ _)) ?_
       skip
       revert h
       with_reducible refine bind_elimY ?_
       intro o2 h hK2
       unfold impl_Loops.a2 at h
       refine sw_join (ι := Gprog × (List Int) × Int × (List GI3) × Int × Int) 20000000 (fun x : Gprog × (List Int) × Int × (List GI3) × Int × Int => [(.s 1, some (.v (V.int x.2.2.1))), (.s 5, some (.v (.mp 256 2 0 0))), (.s 7, some (.v (.sl 896 1 0 x.2.1.length))), (.s 8, some (.v (.d (.row .own 3 (Rw GI3.cells x.2.2.2.1))))), (.s 32, some (.v (V.int x.2.2.2.2.1))), (.s 33, some (.v (V.int x.2.2.2.2.2))), (.r 256, some (.o 2 [[.d (.row .bor 3 (Rw (GFunc.cells .bor) x.1.program.funcs)), .d (.row .own 1 (Rw (cL .own 1 (cI .i64)) x.1.h))]])), (.r 896, some (.o 1 (dd (Rw (cI .i64) x.2.1))))]) (fun x => Yes (some (x)) o2) ?_ ?_
       rotate_left
       rintro ⟨b1, b2, b3, b4, b5, b6⟩ h
       obtain rfl := h.get
       have h := hK2
       (try (simp only [Sum.elim_inl, Sum.elim_inr] at h))
       refine sw_gh ?_
       refine gh_nameSlot 8 ?_
       simp only [List.set_cons_zero, List.set_cons_succ, List.length_nil, List.length_cons, Nat.reduceAdd, Nat.reduceLeDiff, List.take_succ_cons, List.take_of_length_le, List.length_set, List.length_replicate, List.take_length, List.take_nil, List.take_zero, List.drop_nil, List.map_nil, List.map_cons, resSlotP, nameSlotP, Prog.wp, Prog.wp_bind, Prog.bind, Prog.ofO, putSt, lk, Res.s.injEq, Res.r.injEq, reduceCtorEq, Nat.reduceEqDiff, if_true, if_false, resV, resV.go, resV.gol, resGo_dd, dd_length, dd_take, dd_drop, dd_get, List.drop_zero, Rw_length, Rw_take, Rw_drop, Nat.zero_add, Nat.le_refl, true_and, and_true, and_self, nameAll, nameP, outP, outT, cntT, V.lin, D.lin, Nat.reduceAdd]
       refine gh_sw ?_
       skip)
    | (with_reducible refine here_meet (N0 := 20000000) ?_
       skip
       refine gh_resSlot 8 ?_
       simp only [List.set_cons_zero, List.set_cons_succ, List.length_nil, List.length_cons, Nat.reduceAdd, Nat.reduceLeDiff, List.take_succ_cons, List.take_of_length_le, List.length_set, List.length_replicate, List.take_length, List.take_nil, List.take_zero, List.drop_nil, List.map_nil, List.map_cons, resSlotP, nameSlotP, Prog.wp, Prog.wp_bind, Prog.bind, Prog.ofO, putSt, lk, Res.s.injEq, Res.r.injEq, reduceCtorEq, Nat.reduceEqDiff, if_true, if_false, resV, resV.go, resV.gol, resGo_dd, dd_length, dd_take, dd_drop, dd_get, List.drop_zero, Rw_length, Rw_take, Rw_drop, Nat.zero_add, Nat.le_refl, true_and, and_true, and_self, nameAll, nameP, outP, outT, cntT, V.lin, D.lin, *]
       refine meet_to (_, _, _, _, _, _) (by decide) ?_ h ?_
       · exact (by simp [slNL, C.inN, V.inN, V.inNs, V.inNss, inNss_dd, inNs_map_d])
       · simp only [SubL, putSt, lk, Res.s.injEq, Res.r.injEq, reduceCtorEq, Nat.reduceEqDiff, if_true, if_false, List.length_set, List.length_replicate]; repeat' (first | apply And.intro | rfl | trivial | (simp only [*]; done)))
    | (with_reducible refine here_loop (c := (.seq (.region 26 _ _) _)) ?_
       skip
       revert h
       with_reducible refine bind_elimY ?_
       intro o5 h hK5
       refine sw_loop (ι := Nat × (List GI3) × Int × Int × Int × Int × Int) 50000000 (by decide) (fun x : Nat × (List GI3) × Int × Int × Int × Int × Int => [(.s 8, some (.v (.sl 10000000 3 0 x.2.1.length))), (.s 15, some (.v (V.int x.2.2.1))), (.s 72, some (.v (V.int x.2.2.2.1))), (.s 73, some (.v (V.int x.2.2.2.2.1))), (.s 76, some (.v (.sl 10000000 3 0 x.2.1.length))), (.s 77, some (.v (V.int x.2.2.2.2.2.1))), (.s 78, some (.v (V.int x.2.2.2.2.2.2))), (.r 10000000, some (.o 3 (dd (Rw GI3.cells x.2.1))))]) (fun x => x.1) (fun x => Yes (impl_Loops.l5 x.1 x.2.1 x.2.2.1 x.2.2.2.1 x.2.2.2.2.1 x.2.2.2.2.2.1 x.2.2.2.2.2.2) o5) (_, _, _, _, _, _, _) ?_ h ?_ ?_
       · exact (by simp [slNL, C.inN, V.inN, V.inNs, V.inNss, inNss_dd, inNs_map_d])
       · simp only [SubL, putSt, lk, Res.s.injEq, Res.r.injEq, reduceCtorEq, Nat.reduceEqDiff, if_true, if_false, List.length_set, List.length_replicate]; repeat' (first | apply And.intro | rfl | trivial | (simp only [*]; done))
       rintro ⟨_ | k, a1, a2, a3, a4, a5, a6⟩ h
       · simp only [impl_Loops.l5] at h; exact h.none
       simp only [impl_Loops.l5] at h
)
    | (with_reducible refine here_next (N0 := 50000000) ?_
       skip
       refine nexts_to (_, _, _, _, _, _, _) (by decide) ?_ (Nat.lt_succ_self _) h ?_
       · exact (by simp [slNL, C.inN, V.inN, V.inNs, V.inNss, inNss_dd, inNs_map_d])
       · simp only [SubL, putSt, lk, Res.s.injEq, Res.r.injEq, reduceCtorEq, Nat.reduceEqDiff, if_true, if_false, List.length_set, List.length_replicate]; repeat' (first | apply And.intro | rfl | trivial | (simp only [*]; done)))
    | (with_reducible refine here_loop (c := (.seq (.region 23 _ _) _)) ?_
       skip
       revert h
       with_reducible refine bind_elimY ?_
       intro o4 h hK4
       refine sw_loop (ι := Nat × (List GI3) × Int × Int) 40000000 (by decide) (fun x : Nat × (List GI3) × Int × Int => [(.s 8, some (.v (.sl 10000000 3 0 x.2.1.length))), (.s 72, some (.v (V.int x.2.2.1))), (.s 73, some (.v (V.int x.2.2.2))), (.r 10000000, some (.o 3 (dd (Rw GI3.cells x.2.1))))]) (fun x => x.1) (fun x => Yes (impl_Loops.l4 x.1 x.2.1 x.2.2.1 x.2.2.2) o4) (_, _, _, _) ?_ h ?_ ?_
       · exact (by simp [slNL, C.inN, V.inN, V.inNs, V.inNss, inNss_dd, inNs_map_d])
       · simp only [SubL, putSt, lk, Res.s.injEq, Res.r.injEq, reduceCtorEq, Nat.reduceEqDiff, if_true, if_false, List.length_set, List.length_replicate]; repeat' (first | apply And.intro | rfl | trivial | (simp only [*]; done))
       rintro ⟨_ | k, a1, a2, a3⟩ h
       · simp only [impl_Loops.l4] at h; exact h.none
       simp only [impl_Loops.l4] at h
)
    | (with_reducible refine here_next (N0 := 40000000) ?_
       skip
       refine nexts_to (_, _, _, _) (by decide) ?_ (Nat.lt_succ_self _) h ?_
       · exact (by simp [slNL, C.inN, V.inN, V.inNs, V.inNss, inNss_dd, inNs_map_d])
       · simp only [SubL, putSt, lk, Res.s.injEq, Res.r.injEq, reduceCtorEq, Nat.reduceEqDiff, if_true, if_false, List.length_set, List.length_replicate]; repeat' (first | apply And.intro | rfl | trivial | (simp only [*]; done)))
    | (with_reducible refine here_loop (c := (.seq (.region 7 _ _) _)) ?_
       skip
       revert h
       with_reducible refine bind_elimY ?_
       intro o1 h hK1
       refine sw_gh ?_
       (try (refine gh_nilRow 8 .own 3 ?_ ?_; (focus (simp only [putSt, lk, Res.s.injEq, Res.r.injEq, reduceCtorEq, Nat.reduceEqDiff, if_true, if_false]; done))))
       refine gh_resSlot 8 ?_
       simp only [List.set_cons_zero, List.set_cons_succ, List.length_nil, List.length_cons, Nat.reduceAdd, Nat.reduceLeDiff, List.take_succ_cons, List.take_of_length_le, List.length_set, List.length_replicate, List.take_length, List.take_nil, List.take_zero, List.drop_nil, List.map_nil, List.map_cons, resSlotP, nameSlotP, Prog.wp, Prog.wp_bind, Prog.bind, Prog.ofO, putSt, lk, Res.s.injEq, Res.r.injEq, reduceCtorEq, Nat.reduceEqDiff, if_true, if_false, resV, resV.go, resV.gol, resGo_dd, dd_length, dd_take, dd_drop, dd_get, List.drop_zero, Rw_length, Rw_take, Rw_drop, Nat.zero_add, Nat.le_refl, true_and, and_true, and_self, nameAll, nameP, outP, outT, cntT, V.lin, D.lin, *]
       refine gh_sw ?_
       refine sw_loop (ι := Nat × Gprog × (List Int) × Int × (List GI3) × Int × Int) 10000000 (by decide) (fun x : Nat × Gprog × (List Int) × Int × (List GI3) × Int × Int => [(.s 1, some (.v (V.int x.2.2.2.1))), (.s 5, some (.v (.mp 256 2 0 0))), (.s 7, some (.v (.sl 896 1 0 x.2.2.1.length))), (.s 8, some (.v (.d (.row .own 3 (Rw GI3.cells x.2.2.2.2.1))))), (.s 32, some (.v (V.int x.2.2.2.2.2.1))), (.s 33, some (.v (V.int x.2.2.2.2.2.2))), (.r 256, some (.o 2 [[.d (.row .bor 3 (Rw (GFunc.cells .bor) x.2.1.program.funcs)), .d (.row .own 1 (Rw (cL .own 1 (cI .i64)) x.2.1.h))]])), (.r 896, some (.o 1 (dd (Rw (cI .i64) x.2.2.1))))]) (fun x => x.1) (fun x => Yes (impl_Loops.l1 x.1 x.2.1 x.2.2.1 x.2.2.2.1 x.2.2.2.2.1 x.2.2.2.2.2.1 x.2.2.2.2.2.2) o1) (_, _, _, _, _, _, _) ?_ h ?_ ?_
       · exact (by simp [slNL, C.inN, V.inN, V.inNs, V.inNss, inNss_dd, inNs_map_d])
       · simp only [SubL, putSt, lk, Res.s.injEq, Res.r.injEq, reduceCtorEq, Nat.reduceEqDiff, if_true, if_false, List.length_set, List.length_replicate]; repeat' (first | apply And.intro | rfl | trivial | (simp only [*]; done))
       rintro ⟨_ | k, a1, a2, a3, a4, a5, a6⟩ h
       · simp only [impl_Loops.l1] at h; exact h.none
       simp only [impl_Loops.l1] at h
       refine sw_gh ?_
       refine gh_nameSlot 8 ?_
       simp only [List.set_cons_zero, List.set_cons_succ, List.length_nil, List.length_cons, Nat.reduceAdd, Nat.reduceLeDiff, List.take_succ_cons, List.take_of_length_le, List.length_set, List.length_replicate, List.take_length, List.take_nil, List.take_zero, List.drop_nil, List.map_nil, List.map_cons, resSlotP, nameSlotP, Prog.wp, Prog.wp_bind, Prog.bind, Prog.ofO, putSt, lk, Res.s.injEq, Res.r.injEq, reduceCtorEq, Nat.reduceEqDiff, if_true, if_false, resV, resV.go, resV.gol, resGo_dd, dd_length, dd_take, dd_drop, dd_get, List.drop_zero, Rw_length, Rw_take, Rw_drop, Nat.zero_add, Nat.le_refl, true_and, and_true, and_self, nameAll, nameP, outP, outT, cntT, V.lin, D.lin, Nat.reduceAdd]
       refine gh_sw ?_
)
    | (with_reducible refine here_next (N0 := 10000000) ?_
       skip
       (try (refine gh_nilRow 8 .own 3 ?_ ?_; (focus (simp only [putSt, lk, Res.s.injEq, Res.r.injEq, reduceCtorEq, Nat.reduceEqDiff, if_true, if_false]; done))))
       refine gh_resSlot 8 ?_
       simp only [List.set_cons_zero, List.set_cons_succ, List.length_nil, List.length_cons, Nat.reduceAdd, Nat.reduceLeDiff, List.take_succ_cons, List.take_of_length_le, List.length_set, List.length_replicate, List.take_length, List.take_nil, List.take_zero, List.drop_nil, List.map_nil, List.map_cons, resSlotP, nameSlotP, Prog.wp, Prog.wp_bind, Prog.bind, Prog.ofO, putSt, lk, Res.s.injEq, Res.r.injEq, reduceCtorEq, Nat.reduceEqDiff, if_true, if_false, resV, resV.go, resV.gol, resGo_dd, dd_length, dd_take, dd_drop, dd_get, List.drop_zero, Rw_length, Rw_take, Rw_drop, Nat.zero_add, Nat.le_refl, true_and, and_true, and_self, nameAll, nameP, outP, outT, cntT, V.lin, D.lin, *]
       refine nexts_to (_, _, _, _, _, _, _) (by decide) ?_ (Nat.lt_succ_self _) h ?_
       · exact (by simp [slNL, C.inN, V.inN, V.inNs, V.inNss, inNss_dd, inNs_map_d])
       · simp only [SubL, putSt, lk, Res.s.injEq, Res.r.injEq, reduceCtorEq, Nat.reduceEqDiff, if_true, if_false, List.length_set, List.length_replicate]; repeat' (first | apply And.intro | rfl | trivial | (simp only [*]; done)))
    | with_reducible refine sw_seq ?_
    | with_reducible refine seqQ_ret ?_
    | with_reducible refine seqQ_exit ?_
    | (with_reducible refine gh_nilRow 4 .own 3 ?_ ?_
       · simp only [putSt, lk, Res.s.injEq, Res.r.injEq, reduceCtorEq, Nat.reduceEqDiff, if_true, if_false]; done
       skip)
    | ((with_reducible refine wp_ite ?_ ?_)
       all_goals (intro hc; (try (simp only [Bool.not_eq_true, Bool.not_eq_false] at hc)); (try (revert h; first | (with_reducible refine condt_elim hc ?_; intro h) | (with_reducible refine condf_elim hc ?_; intro h) | fail)); simp only [hc]))
    | (with_reducible apply regW_skip
       · simp only [dstOk, Nat.reduceLT]
       · rfl
       · simp only [putSt, lk, Res.s.injEq, Res.r.injEq, reduceCtorEq, Nat.reduceEqDiff, if_true, if_false]; done)
    | (with_reducible apply regW_yesN
       · simp only [dstOk, Nat.reduceLT]
       · rfl
       · simp only [putSt, lk, Res.s.injEq, Res.r.injEq, reduceCtorEq, Nat.reduceEqDiff, if_true, if_false]; done)
    | (with_reducible apply regW_no
       · simp only [dstOk, Nat.reduceLT]
       · rfl
       · simp only [putSt, lk, Res.s.injEq, Res.r.injEq, reduceCtorEq, Nat.reduceEqDiff, if_true, if_false, Bool.not_true, Bool.not_false]; done)
    | (with_reducible apply regW_guardN
       · simp only [dstOk, Nat.reduceLT]
       · rfl
       · simp only [putSt, lk, Res.s.injEq, Res.r.injEq, reduceCtorEq, Nat.reduceEqDiff, if_true, if_false]; rfl
       all_goals (intro hc; (try (simp only [Bool.not_true, Bool.not_false] at hc)); (try (revert h; first | (with_reducible refine condt_elim hc ?_; intro h) | (with_reducible refine condf_elim hc ?_; intro h) | fail))))
    | ((with_reducible apply sw_cond
        · simp only [putSt, lk, Res.s.injEq, Res.r.injEq, reduceCtorEq, Nat.reduceEqDiff, if_true, if_false]; rfl
        all_goals (intro hc; try (cases hc; done)))
       all_goals (try (revert h; first | (with_reducible refine condt_elim hc ?_; intro h) | (with_reducible refine condf_elim hc ?_; intro h) | fail)))
    | ((first
        | ((with_reducible refine gh_ret ?_)
           revert h
           with_reducible refine some_elim ?_
           rintro rfl)
        | (with_reducible refine here_call ?_
           revert h
           with_reducible refine bind_elim ?_
           intro t ht h
           (first
             | (refine call_dataE (c_impl_knownFunc ht) ?_ rfl ?_
                · first | rfl | (simp; done))
             | (refine call_autoE (c_impl_prog_preds ht) ?_ ?_ ?_
                · simp only [List.length_set, List.length_replicate, lendAL, lendA, Option.bind_some, Option.map_some, undd_dd, dd_length, dd_take, dd_drop, Rw_length, Rw_take, Rw_drop, Nat.zero_add, Nat.add_zero, Nat.le_refl, true_and, and_true, and_self, List.take_length, List.drop_zero, C.o.injEq, V.d.injEq, undd.unddR, List.getElem?_cons_zero, List.length_cons, List.length_nil, Nat.zero_le, D.lendL, D.lend, Md.lend, List.map_cons, List.map_nil, cI_lend, cB_lend, cS_lend, GI2_lend, GFunc_lend, GProgram_lend, Gprog_lend, GI3_lend, LcIi64_lend, LGI2_lend, List.take_of_length_le, putSt, lk, Res.s.injEq, Res.r.injEq, reduceCtorEq, Nat.reduceEqDiff, if_true, if_false, *]; first | rfl | done
                · first | rfl | (simp only [V.nb, V.nbL, D.nb, D.nbL, Md.nb, cI_nb, cB_nb, cS_nb, Bool.and_self, Bool.and_true, GI2_nb, GFunc_nb, GProgram_nb, Gprog_nb, GI3_nb, LcIi64_nb, LGI2_nb]; done)
                simp only [V.namesOf, V.namesOfL, List.foldl_cons, List.foldl_nil, List.nil_append, List.append_nil, List.cons_append])
             | (refine call_autoE (c_impl_prog_doms ht) ?_ ?_ ?_
                · simp only [List.length_set, List.length_replicate, lendAL, lendA, Option.bind_some, Option.map_some, undd_dd, dd_length, dd_take, dd_drop, Rw_length, Rw_take, Rw_drop, Nat.zero_add, Nat.add_zero, Nat.le_refl, true_and, and_true, and_self, List.take_length, List.drop_zero, C.o.injEq, V.d.injEq, undd.unddR, List.getElem?_cons_zero, List.length_cons, List.length_nil, Nat.zero_le, D.lendL, D.lend, Md.lend, List.map_cons, List.map_nil, cI_lend, cB_lend, cS_lend, GI2_lend, GFunc_lend, GProgram_lend, Gprog_lend, GI3_lend, LcIi64_lend, LGI2_lend, List.take_of_length_le, putSt, lk, Res.s.injEq, Res.r.injEq, reduceCtorEq, Nat.reduceEqDiff, if_true, if_false, *]; first | rfl | done
                · first | rfl | (simp only [V.nb, V.nbL, D.nb, D.nbL, Md.nb, cI_nb, cB_nb, cS_nb, Bool.and_self, Bool.and_true, GI2_nb, GFunc_nb, GProgram_nb, Gprog_nb, GI3_nb, LcIi64_nb, LGI2_nb]; done)
                simp only [V.namesOf, V.namesOfL, List.foldl_cons, List.foldl_nil, List.nil_append, List.append_nil, List.cons_append])
             | (refine call_obj [256] (c_impl_prog_code_v0 ht) (by decide) ?_ ?_
                · first | exact .inl rfl | (refine .inr ⟨?_, ?_⟩; (focus (first | rfl | (simp only [V.nb, V.nbL, D.nb, D.nbL, Md.nb, cI_nb, cB_nb, cS_nb, Bool.and_self, Bool.and_true, GI2_nb, GFunc_nb, GProgram_nb, Gprog_nb, GI3_nb, LcIi64_nb, LGI2_nb]; done))); (focus (simp [C.nb, V.nbLL, V.nbL, V.nb, D.nb]; done)))
                simp only [argsP, argP, V.namesOf, V.namesOfL, List.mem_append, List.append_nil, List.mem_cons, or_false, or_true, true_or, objsP, C.ren, V.ren, V.renL, renLL_dd, V.renLL, List.getD_cons_zero, List.getD_cons_succ, C.o.injEq, List.length_set, List.length_replicate, lendAL, lendA, Option.bind_some, Option.map_some, undd_dd, dd_length, dd_take, dd_drop, Rw_length, Rw_take, Rw_drop, Nat.zero_add, Nat.add_zero, Nat.le_refl, true_and, and_true, and_self, List.take_length, List.drop_zero, C.o.injEq, V.d.injEq, undd.unddR, List.getElem?_cons_zero, List.length_cons, List.length_nil, Nat.zero_le, D.lendL, D.lend, Md.lend, List.map_cons, List.map_nil, cI_lend, cB_lend, cS_lend, GI2_lend, GFunc_lend, GProgram_lend, Gprog_lend, GI3_lend, LcIi64_lend, LGI2_lend, putSt, lk, Res.s.injEq, Res.r.injEq, reduceCtorEq, Nat.reduceEqDiff, if_true, if_false, Prog.wp, Prog.wp_bind, Prog.bind, Prog.ofO, List.take_of_length_le, *])
             | (refine call_autoE (c_impl_prog_body ht) ?_ ?_ ?_
                · simp only [List.length_set, List.length_replicate, lendAL, lendA, Option.bind_some, Option.map_some, undd_dd, dd_length, dd_take, dd_drop, Rw_length, Rw_take, Rw_drop, Nat.zero_add, Nat.add_zero, Nat.le_refl, true_and, and_true, and_self, List.take_length, List.drop_zero, C.o.injEq, V.d.injEq, undd.unddR, List.getElem?_cons_zero, List.length_cons, List.length_nil, Nat.zero_le, D.lendL, D.lend, Md.lend, List.map_cons, List.map_nil, cI_lend, cB_lend, cS_lend, GI2_lend, GFunc_lend, GProgram_lend, Gprog_lend, GI3_lend, LcIi64_lend, LGI2_lend, List.take_of_length_le, putSt, lk, Res.s.injEq, Res.r.injEq, reduceCtorEq, Nat.reduceEqDiff, if_true, if_false, *]; first | rfl | done
                · first | rfl | (simp only [V.nb, V.nbL, D.nb, D.nbL, Md.nb, cI_nb, cB_nb, cS_nb, Bool.and_self, Bool.and_true, GI2_nb, GFunc_nb, GProgram_nb, Gprog_nb, GI3_nb, LcIi64_nb, LGI2_nb]; done)
                simp only [V.namesOf, V.namesOfL, List.foldl_cons, List.foldl_nil, List.nil_append, List.append_nil, List.cons_append])))
        | (with_reducible apply regD_opK
           · simp only [dstOk, Nat.reduceLT]
           · simp only [Nat.reduceAdd]; rfl
           intro k hk)
        | (with_reducible apply regW_opK
           · simp only [dstOk, Nat.reduceLT]
           · simp only [Nat.reduceAdd]; rfl
           intro k hk)
        | skip)
       simp only [RetW, bn, opC, opP, fetchN, fetchP, fetchAll, fetchO, Prog.bind, Prog.wp, Prog.wp_bind, lk, nameP, nameAll, Value.oneCell', putSt, stepP, putP, Res.s.injEq, Res.r.injEq, reduceCtorEq, V.lin, V.linL, D.lin, isNil, binP, unP, BinOp.isShift, Prog.ofO, true_and, and_true, Nat.reduceAdd, Nat.reduceMul, Nat.reduceSub, Nat.reduceLT, Nat.reduceLeDiff, Nat.reduceEqDiff, if_true, if_false, ite_true, ite_false, Bool.false_eq_true, Bool.not_true, Bool.not_false, Bool.or_false, Bool.or_true, fieldAddrP, fieldP, indexAddrP, loadP, storeP, boxP, allocP, cellsP, asVal, setSeg, outP, outT, cntT, TyK.field, TyK.agg, zeroRow, V.ren, V.renL, forall_eq_or_imp, implies_true, false_implies, forall_const, and_self, true_or, minmaxP, lenP, lenOf, lenStr, V.asInt, decide_true, decide_false, sliceP, boundP, makeSliceP, convertP, appendP, rowsOfP, ontoP, sizeFits, V.rowSize, TyK.src, resV, resV.go, resV.gol, retP, retOne, retAll, resTo, objsAre, Option.map_eq_map, Function.const_apply, Int.reduceNeg, Int.reduceToNat, ty2, ty3, ty4, ty26, ty28, ty30, ty44, ty49, ty53, ty63, ty65, ty68, ty107, ty122, GFunc.cells, GI2.cells, GI3.cells, GProgram.cells, Gprog.cells, cI, cB, cS, cL, GI2_e, GFunc_e, GProgram_e, Gprog_e, GI3_e, LcIi64_e, LGI2_e, buildP, buildSliceP, putParts, structPlaces, chunks, List.replicate, List.flatten_nil, List.flatten_cons, Option.bind_some, bb, GI2_b, GFunc_b, GProgram_b, Gprog_b, GI3_b, LcIi64_b, LGI2_b, shiftBin_shl, shiftBin_shr, intBin_quo, intBin_rem, Int.reduceLT, Int.reduceEq, not_false_eq_true, Int.not_lt, nilEqP, ne_eq, not_false_eq_true, not_true_eq_false, *]
       try (refine hk.use _ _ _ _ ?_; clear hk k))
    | fail)
  all_goals (try rfl)
  all_goals (try (simp; done))
  all_goals (try (simp_all; done))

end Go.Proofs.Ytdlaplgofgklnaa
namespace Go.Proofs.Ytdlaplgofgklnaa
open Go.Proofs Go.Proofs.Ytdlaplgofgklnaa.L
set_option maxHeartbeats 1000000
set_option linter.unusedSimpArgs false
set_option linter.unusedVariables false
set_option maxRecDepth 100000

def laws_eqLoop (p0 : GI3) (p1 : GI3) : Option (Bool) :=
  cond ((p0.a != p1.a)) (some false) (cond ((p0.b != p1.b)) (some false) (cond ((p0.c != p1.c)) (some false) (some true)))

theorem c_laws_eqLoop {p0 : GI3} {p1 : GI3} {r : Bool} (h : laws_eqLoop p0 p1 = some r) : Con Try.prog 52 [.agg [V.int p0.a, V.int p0.b, V.int p0.c], .agg [V.int p1.a, V.int p1.b, V.int p1.c]] [] (V.bool r) [] := by
  refine con_of_sw Try.func52 rfl Try.call52 (by simp [Try.ntmps52]) (by simp [V.inNs, V.inN]) (by simp [C.inN, V.inNss, V.inNs, V.inN, inNss_dd]) (by simp [V.inNs, V.inN]) (by simp [C.inN, V.inNss, V.inNs, V.inN, inNss_dd]) rfl ?_
  rw [Try.ntmps52, Try.results52]
  unfold laws_eqLoop at h
  replace h := Yes.mk h
  simp only [entryS, entryO, Nat.reduceAdd, List.length_nil, List.length_cons]
  repeat' (first
    | with_reducible refine sw_reg ?_
    | with_reducible refine sw_ret ?_
    | with_reducible refine sw_skip ?_
    | with_reducible refine sw_block ?_
    | with_reducible refine sw_exit ?_
    | with_reducible refine seqQ_normal ?_
    | with_reducible refine blockQ_normal ?_
    | with_reducible refine blockQ_ret ?_
    | with_reducible refine blockQ_this ?_
    | with_reducible refine blockQ_other (by decide) ?_
    | with_reducible refine regW_nil ?_
    | with_reducible refine sw_draw mixed ?_
    | (with_reducible refine regD_nil ?_
       refine ⟨by kernel_rfl, ?_⟩)
    | with_reducible refine retQ_ret ?_
    | with_reducible refine retQ_normal ?_
    | (revert h; (first | ((with_reducible refine idx_elim ?_); intro m hm1 hm2 hm3 h; (try (simp only [Int.reduceToNat] at hm3)); (try (revert hm3; (with_reducible apply same_elim); (focus (with_reducible assumption)); rintro rfl)); (try (simp only [List.length_set, List.length_cons, List.length_nil, List.length_replicate, Nat.reduceAdd, Int.cast_ofNat_Int, Nat.zero_add, List.length_append] at hm2))) | (with_reducible refine sidx_elim ?_; intro m hm1 hm3 h) | (with_reducible refine gd_elim ?_; intro hg h; try (have hg2 := hg.2; have hg := hg.1; (try (simp only [Nat.reduceLeDiff] at hg2)); (try (revert hg2; (with_reducible refine toNat_elim hg ?_); intro hg2 hg4)); try (have hg3 := hg2.2; have hg2 := hg2.1; (try (simp only [Nat.reduceLeDiff] at hg3))))) | fail))
    | with_reducible refine sw_seq ?_
    | with_reducible refine seqQ_ret ?_
    | with_reducible refine seqQ_exit ?_
    | ((with_reducible refine wp_ite ?_ ?_)
       all_goals (intro hc; (try (simp only [Bool.not_eq_true, Bool.not_eq_false] at hc)); (try (revert h; first | (with_reducible refine condt_elim hc ?_; intro h) | (with_reducible refine condf_elim hc ?_; intro h) | fail)); simp only [hc]))
    | (with_reducible apply regW_skip
       · simp only [dstOk, Nat.reduceLT]
       · rfl
       · simp only [putSt, lk, Res.s.injEq, Res.r.injEq, reduceCtorEq, Nat.reduceEqDiff, if_true, if_false]; done)
    | (with_reducible apply regW_yesN
       · simp only [dstOk, Nat.reduceLT]
       · rfl
       · simp only [putSt, lk, Res.s.injEq, Res.r.injEq, reduceCtorEq, Nat.reduceEqDiff, if_true, if_false]; done)
    | (with_reducible apply regW_no
       · simp only [dstOk, Nat.reduceLT]
       · rfl
       · simp only [putSt, lk, Res.s.injEq, Res.r.injEq, reduceCtorEq, Nat.reduceEqDiff, if_true, if_false, Bool.not_true, Bool.not_false]; done)
    | (with_reducible apply regW_guardN
       · simp only [dstOk, Nat.reduceLT]
       · rfl
       · simp only [putSt, lk, Res.s.injEq, Res.r.injEq, reduceCtorEq, Nat.reduceEqDiff, if_true, if_false]; rfl
       all_goals (intro hc; (try (simp only [Bool.not_true, Bool.not_false] at hc)); (try (revert h; first | (with_reducible refine condt_elim hc ?_; intro h) | (with_reducible refine condf_elim hc ?_; intro h) | fail))))
    | ((with_reducible apply sw_cond
        · simp only [putSt, lk, Res.s.injEq, Res.r.injEq, reduceCtorEq, Nat.reduceEqDiff, if_true, if_false]; rfl
        all_goals (intro hc; try (cases hc; done)))
       all_goals (try (revert h; first | (with_reducible refine condt_elim hc ?_; intro h) | (with_reducible refine condf_elim hc ?_; intro h) | fail)))
    | ((first
        | ((with_reducible refine gh_ret ?_)
           revert h
           with_reducible refine some_elim ?_
           rintro rfl)
        | (with_reducible apply regD_opK
           · simp only [dstOk, Nat.reduceLT]
           · simp only [Nat.reduceAdd]; rfl
           intro k hk)
        | (with_reducible apply regW_opK
           · simp only [dstOk, Nat.reduceLT]
           · simp only [Nat.reduceAdd]; rfl
           intro k hk)
        | skip)
       simp only [RetW, bn, opC, opP, fetchN, fetchP, fetchAll, fetchO, Prog.bind, Prog.wp, Prog.wp_bind, lk, nameP, nameAll, Value.oneCell', putSt, stepP, putP, Res.s.injEq, Res.r.injEq, reduceCtorEq, V.lin, V.linL, D.lin, isNil, binP, unP, BinOp.isShift, Prog.ofO, true_and, and_true, Nat.reduceAdd, Nat.reduceMul, Nat.reduceSub, Nat.reduceLT, Nat.reduceLeDiff, Nat.reduceEqDiff, if_true, if_false, ite_true, ite_false, Bool.false_eq_true, Bool.not_true, Bool.not_false, Bool.or_false, Bool.or_true, fieldAddrP, fieldP, indexAddrP, loadP, storeP, boxP, allocP, cellsP, asVal, setSeg, outP, outT, cntT, TyK.field, TyK.agg, zeroRow, V.ren, V.renL, forall_eq_or_imp, implies_true, false_implies, forall_const, and_self, true_or, minmaxP, lenP, lenOf, lenStr, V.asInt, decide_true, decide_false, sliceP, boundP, makeSliceP, convertP, appendP, rowsOfP, ontoP, sizeFits, V.rowSize, TyK.src, resV, resV.go, resV.gol, retP, retOne, retAll, resTo, objsAre, Option.map_eq_map, Function.const_apply, Int.reduceNeg, Int.reduceToNat, ty2, ty4, ty49, GI3.cells, cI, cB, cS, cL, GI3_e, *]
       try (refine hk.use _ _ _ _ ?_; clear hk k))
    | fail)
  all_goals (try rfl)
  all_goals (try (simp; done))
  all_goals (try (simp_all; done))

end Go.Proofs.Ytdlaplgofgklnaa
namespace Go.Proofs.Ytdlaplgofgklnaa
open Go.Proofs Go.Proofs.Ytdlaplgofgklnaa.L
set_option maxHeartbeats 1000000
set_option linter.unusedSimpArgs false
set_option linter.unusedVariables false
set_option maxRecDepth 100000

def laws_eqLoopS.l1 : Nat → (List GI3) → (List GI3) → Int → Option ((Bool) ⊕ (Unit))
  | 0, _, _, _ => none
  | k + 1, a1, a2, a3 => cond ((decide (a3 < ((a1.length : Int))))) ((idx a1 a3).bind fun m1 => (idx a2 a3).bind fun m2 => (laws_eqLoop m1 m2).bind fun t3 => cond ((!t3)) (some (.inl (false))) (laws_eqLoopS.l1 k a1 a2 ((IntKind.i64.wrap (a3 + 1))))) (some (.inr ()))

def laws_eqLoopS (k : Nat) (p0 : (List GI3)) (p1 : (List GI3)) : Option (Bool) :=
  cond ((((p0.length : Int)) != ((p1.length : Int)))) (some false) ((laws_eqLoopS.l1 k p0 p1 0).bind fun o1 => Sum.elim (fun o1l => some o1l) (fun o1r => some true) o1)

theorem c_laws_eqLoopS {k : Nat} {p0 : (List GI3)} {p1 : (List GI3)} {r : Bool} (h : laws_eqLoopS k p0 p1 = some r) : Con Try.prog 24 [.d (.row .bor 3 (Rw GI3.cells p0)), .d (.row .bor 3 (Rw GI3.cells p1))] [] (V.bool r) [] := by
  refine con_of_sw Try.func24 rfl Try.call24 (by simp [Try.ntmps24]) (by simp [V.inNs, V.inN]) (by simp [C.inN, V.inNss, V.inNs, V.inN, inNss_dd]) (by simp [V.inNs, V.inN]) (by simp [C.inN, V.inNss, V.inNs, V.inN, inNss_dd]) rfl ?_
  rw [Try.ntmps24, Try.results24]
  unfold laws_eqLoopS at h
  replace h := Yes.mk h
  simp only [entryS, entryO, Nat.reduceAdd, List.length_nil, List.length_cons]
  repeat' (first
    | with_reducible refine sw_reg ?_
    | with_reducible refine sw_ret ?_
    | with_reducible refine sw_skip ?_
    | with_reducible refine sw_block ?_
    | with_reducible refine sw_exit ?_
    | with_reducible refine seqQ_normal ?_
    | with_reducible refine blockQ_normal ?_
    | with_reducible refine blockQ_ret ?_
    | with_reducible refine blockQ_this ?_
    | with_reducible refine blockQ_other (by decide) ?_
    | with_reducible refine regW_nil ?_
    | with_reducible refine sw_draw mixed ?_
    | (with_reducible refine regD_nil ?_
       refine ⟨by kernel_rfl, ?_⟩)
    | with_reducible refine retQ_ret ?_
    | with_reducible refine retQ_normal ?_
    | (revert h; (first | ((with_reducible refine idx_elim ?_); intro m hm1 hm2 hm3 h; (try (simp only [Int.reduceToNat] at hm3)); (try (revert hm3; (with_reducible apply same_elim); (focus (with_reducible assumption)); rintro rfl)); (try (simp only [List.length_set, List.length_cons, List.length_nil, List.length_replicate, Nat.reduceAdd, Int.cast_ofNat_Int, Nat.zero_add, List.length_append] at hm2))) | (with_reducible refine sidx_elim ?_; intro m hm1 hm3 h) | (with_reducible refine gd_elim ?_; intro hg h; try (have hg2 := hg.2; have hg := hg.1; (try (simp only [Nat.reduceLeDiff] at hg2)); (try (revert hg2; (with_reducible refine toNat_elim hg ?_); intro hg2 hg4)); try (have hg3 := hg2.2; have hg2 := hg2.1; (try (simp only [Nat.reduceLeDiff] at hg3))))) | fail))
    | ((first | with_reducible refine seqQ_ret (K := (fun st1 n1 => Gh st1 n1 (NextS _ 10000000 _ _ _ _))) ?_ | with_reducible refine seqQ_exit (K := (fun st1 n1 => Gh st1 n1 (NextS _ 10000000 _ _ _ _))) ?_)
       obtain rfl := h.get
       have h := hK1
       (try (simp only [Sum.elim_inl, Sum.elim_inr] at h)))
    | (with_reducible refine here_loop (c := (.seq (.seq (.region 4 _ _) _) _)) ?_
       skip
       revert h
       with_reducible refine bind_elimY ?_
       intro o1 h hK1
       refine sw_loop (ι := Nat × (List GI3) × (List GI3) × Int) 10000000 (by decide) (fun x : Nat × (List GI3) × (List GI3) × Int => [(.s 0, some (.v (.d (.row .bor 3 (Rw GI3.cells x.2.1))))), (.s 1, some (.v (.d (.row .bor 3 (Rw GI3.cells x.2.2.1))))), (.s 5, some (.v (V.int x.2.2.2)))]) (fun x => x.1) (fun x => Yes (laws_eqLoopS.l1 x.1 x.2.1 x.2.2.1 x.2.2.2) o1) (_, _, _, _) ?_ h ?_ ?_
       · exact (by simp [slNL, C.inN, V.inN, V.inNs, V.inNss, inNss_dd, inNs_map_d])
       · simp only [SubL, putSt, lk, Res.s.injEq, Res.r.injEq, reduceCtorEq, Nat.reduceEqDiff, if_true, if_false, List.length_set, List.length_replicate]; repeat' (first | apply And.intro | rfl | trivial | (simp only [*]; done))
       rintro ⟨_ | k, a1, a2, a3⟩ h
       · simp only [laws_eqLoopS.l1] at h; exact h.none
       simp only [laws_eqLoopS.l1] at h
)
    | (with_reducible refine here_next (N0 := 10000000) ?_
       skip
       refine nexts_to (_, _, _, _) (by decide) ?_ (Nat.lt_succ_self _) h ?_
       · exact (by simp [slNL, C.inN, V.inN, V.inNs, V.inNss, inNss_dd, inNs_map_d])
       · simp only [SubL, putSt, lk, Res.s.injEq, Res.r.injEq, reduceCtorEq, Nat.reduceEqDiff, if_true, if_false, List.length_set, List.length_replicate]; repeat' (first | apply And.intro | rfl | trivial | (simp only [*]; done)))
    | with_reducible refine sw_seq ?_
    | with_reducible refine seqQ_ret ?_
    | with_reducible refine seqQ_exit ?_
    | ((with_reducible refine wp_ite ?_ ?_)
       all_goals (intro hc; (try (simp only [Bool.not_eq_true, Bool.not_eq_false] at hc)); (try (revert h; first | (with_reducible refine condt_elim hc ?_; intro h) | (with_reducible refine condf_elim hc ?_; intro h) | fail)); simp only [hc]))
    | (with_reducible apply regW_skip
       · simp only [dstOk, Nat.reduceLT]
       · rfl
       · simp only [putSt, lk, Res.s.injEq, Res.r.injEq, reduceCtorEq, Nat.reduceEqDiff, if_true, if_false]; done)
    | (with_reducible apply regW_yesN
       · simp only [dstOk, Nat.reduceLT]
       · rfl
       · simp only [putSt, lk, Res.s.injEq, Res.r.injEq, reduceCtorEq, Nat.reduceEqDiff, if_true, if_false]; done)
    | (with_reducible apply regW_no
       · simp only [dstOk, Nat.reduceLT]
       · rfl
       · simp only [putSt, lk, Res.s.injEq, Res.r.injEq, reduceCtorEq, Nat.reduceEqDiff, if_true, if_false, Bool.not_true, Bool.not_false]; done)
    | (with_reducible apply regW_guardN
       · simp only [dstOk, Nat.reduceLT]
       · rfl
       · simp only [putSt, lk, Res.s.injEq, Res.r.injEq, reduceCtorEq, Nat.reduceEqDiff, if_true, if_false]; rfl
       all_goals (intro hc; (try (simp only [Bool.not_true, Bool.not_false] at hc)); (try (revert h; first | (with_reducible refine condt_elim hc ?_; intro h) | (with_reducible refine condf_elim hc ?_; intro h) | fail))))
    | ((with_reducible apply sw_cond
        · simp only [putSt, lk, Res.s.injEq, Res.r.injEq, reduceCtorEq, Nat.reduceEqDiff, if_true, if_false]; rfl
        all_goals (intro hc; try (cases hc; done)))
       all_goals (try (revert h; first | (with_reducible refine condt_elim hc ?_; intro h) | (with_reducible refine condf_elim hc ?_; intro h) | fail)))
    | ((first
        | ((with_reducible refine gh_ret ?_)
           revert h
           with_reducible refine some_elim ?_
           rintro rfl)
        | (with_reducible refine here_call ?_
           revert h
           with_reducible refine bind_elim ?_
           intro t ht h
           (first
             | (refine call_dataE (c_laws_eqLoop ht) ?_ rfl ?_
                · first | rfl | (simp; done))))
        | (with_reducible apply regD_opK
           · simp only [dstOk, Nat.reduceLT]
           · simp only [Nat.reduceAdd]; rfl
           intro k hk)
        | (with_reducible apply regW_opK
           · simp only [dstOk, Nat.reduceLT]
           · simp only [Nat.reduceAdd]; rfl
           intro k hk)
        | skip)
       simp only [RetW, bn, opC, opP, fetchN, fetchP, fetchAll, fetchO, Prog.bind, Prog.wp, Prog.wp_bind, lk, nameP, nameAll, Value.oneCell', putSt, stepP, putP, Res.s.injEq, Res.r.injEq, reduceCtorEq, V.lin, V.linL, D.lin, isNil, binP, unP, BinOp.isShift, Prog.ofO, true_and, and_true, Nat.reduceAdd, Nat.reduceMul, Nat.reduceSub, Nat.reduceLT, Nat.reduceLeDiff, Nat.reduceEqDiff, if_true, if_false, ite_true, ite_false, Bool.false_eq_true, Bool.not_true, Bool.not_false, Bool.or_false, Bool.or_true, fieldAddrP, fieldP, indexAddrP, loadP, storeP, boxP, allocP, cellsP, asVal, setSeg, outP, outT, cntT, TyK.field, TyK.agg, zeroRow, V.ren, V.renL, forall_eq_or_imp, implies_true, false_implies, forall_const, and_self, true_or, minmaxP, lenP, lenOf, lenStr, V.asInt, decide_true, decide_false, sliceP, boundP, makeSliceP, convertP, appendP, rowsOfP, ontoP, sizeFits, V.rowSize, TyK.src, resV, resV.go, resV.gol, retP, retOne, retAll, resTo, objsAre, Option.map_eq_map, Function.const_apply, Int.reduceNeg, Int.reduceToNat, ty2, ty3, ty4, ty44, ty49, GI3.cells, cI, cB, cS, cL, GI3_e, *]
       try (refine hk.use _ _ _ _ ?_; clear hk k))
    | fail)
  all_goals (try rfl)
  all_goals (try (simp; done))
  all_goals (try (simp_all; done))

end Go.Proofs.Ytdlaplgofgklnaa
namespace Go.Proofs.Ytdlaplgofgklnaa
open Go.Proofs Go.Proofs.Ytdlaplgofgklnaa.L
set_option maxHeartbeats 1000000
set_option linter.unusedSimpArgs false
set_option linter.unusedVariables false
set_option maxRecDepth 100000

def laws_markLoopS.l1 : Nat → (List GI3) → Int → Int → Option ((List GI3) × Int)
  | 0, _, _, _ => none
  | k + 1, a1, a2, a3 => cond ((decide (a3 < ((a1.length : Int))))) ((idx a1 a3).bind fun m1 => laws_markLoopS.l1 k ((a1.set a3.toNat ((⟨a2, (IntKind.i64.wrap (a2 + 1)), (IntKind.i64.wrap (((IntKind.i64.wrap (a2 + 1))) + 1))⟩ : GI3)))) ((IntKind.i64.wrap (((IntKind.i64.wrap (((IntKind.i64.wrap (a2 + 1))) + 1))) + 1))) ((IntKind.i64.wrap (a3 + 1)))) (some (a1, a2))

def laws_markLoopS (k : Nat) (p0 : (List GI3)) (p1 : Int) : Option (Int × (List GI3)) :=
  (laws_markLoopS.l1 k p0 p1 0).bind fun o1 => some (o1.2, o1.1)

theorem c_laws_markLoopS {k : Nat} {p0 : (List GI3)} {p1 : Int} {r : Int × (List GI3)} (h : laws_markLoopS k p0 p1 = some r) : Con Try.prog 25 [.sl 0 3 0 p0.length, V.int p1] [.o 3 (dd (Rw GI3.cells p0))] (V.int r.1) [.o 3 (dd (Rw GI3.cells r.2))] := by
  refine con_of_sw Try.func25 rfl Try.call25 (by simp [Try.ntmps25]) (by simp [V.inNs, V.inN]) (by simp [C.inN, V.inNss, V.inNs, V.inN, inNss_dd]) (by simp [V.inNs, V.inN]) (by simp [C.inN, V.inNss, V.inNs, V.inN, inNss_dd]) rfl ?_
  rw [Try.ntmps25, Try.results25]
  unfold laws_markLoopS at h
  replace h := Yes.mk h
  simp only [entryS, entryO, Nat.reduceAdd, List.length_nil, List.length_cons]
  repeat' (first
    | with_reducible refine sw_reg ?_
    | with_reducible refine sw_ret ?_
    | with_reducible refine sw_skip ?_
    | with_reducible refine sw_block ?_
    | with_reducible refine sw_exit ?_
    | with_reducible refine seqQ_normal ?_
    | with_reducible refine blockQ_normal ?_
    | with_reducible refine blockQ_ret ?_
    | with_reducible refine blockQ_this ?_
    | with_reducible refine blockQ_other (by decide) ?_
    | with_reducible refine regW_nil ?_
    | with_reducible refine sw_draw mixed ?_
    | (with_reducible refine regD_nil ?_
       refine ⟨by kernel_rfl, ?_⟩)
    | with_reducible refine retQ_ret ?_
    | with_reducible refine retQ_normal ?_
    | (revert h; (first | ((with_reducible refine idx_elim ?_); intro m hm1 hm2 hm3 h; (try (simp only [Int.reduceToNat] at hm3)); (try (revert hm3; (with_reducible apply same_elim); (focus (with_reducible assumption)); rintro rfl)); (try (simp only [List.length_set, List.length_cons, List.length_nil, List.length_replicate, Nat.reduceAdd, Int.cast_ofNat_Int, Nat.zero_add, List.length_append] at hm2))) | (with_reducible refine sidx_elim ?_; intro m hm1 hm3 h) | (with_reducible refine gd_elim ?_; intro hg h; try (have hg2 := hg.2; have hg := hg.1; (try (simp only [Nat.reduceLeDiff] at hg2)); (try (revert hg2; (with_reducible refine toNat_elim hg ?_); intro hg2 hg4)); try (have hg3 := hg2.2; have hg2 := hg2.1; (try (simp only [Nat.reduceLeDiff] at hg3))))) | fail))
    | ((first | with_reducible refine seqQ_ret (K := (fun st1 n1 => Gh st1 n1 (NextS _ 10000000 _ _ _ _))) ?_ | with_reducible refine seqQ_exit (K := (fun st1 n1 => Gh st1 n1 (NextS _ 10000000 _ _ _ _))) ?_)
       obtain rfl := h.get
       have h := hK1
       (try (simp only [Sum.elim_inl, Sum.elim_inr] at h)))
    | (with_reducible refine here_loop (c := (.seq (.seq (.region 2 _ _) _) _)) ?_
       skip
       revert h
       with_reducible refine bind_elimY ?_
       intro o1 h hK1
       refine sw_loop (ι := Nat × (List GI3) × Int × Int) 10000000 (by decide) (fun x : Nat × (List GI3) × Int × Int => [(.s 0, some (.v (.sl 0 3 0 x.2.1.length))), (.s 1, some (.v (V.int x.2.2.1))), (.s 5, some (.v (V.int x.2.2.2))), (.r 0, some (.o 3 (dd (Rw GI3.cells x.2.1))))]) (fun x => x.1) (fun x => Yes (laws_markLoopS.l1 x.1 x.2.1 x.2.2.1 x.2.2.2) o1) (_, _, _, _) ?_ h ?_ ?_
       · exact (by simp [slNL, C.inN, V.inN, V.inNs, V.inNss, inNss_dd, inNs_map_d])
       · simp only [SubL, putSt, lk, Res.s.injEq, Res.r.injEq, reduceCtorEq, Nat.reduceEqDiff, if_true, if_false, List.length_set, List.length_replicate]; repeat' (first | apply And.intro | rfl | trivial | (simp only [*]; done))
       rintro ⟨_ | k, a1, a2, a3⟩ h
       · simp only [laws_markLoopS.l1] at h; exact h.none
       simp only [laws_markLoopS.l1] at h
)
    | (with_reducible refine here_next (N0 := 10000000) ?_
       skip
       refine nexts_to (_, _, _, _) (by decide) ?_ (Nat.lt_succ_self _) h ?_
       · exact (by simp [slNL, C.inN, V.inN, V.inNs, V.inNss, inNss_dd, inNs_map_d])
       · simp only [SubL, putSt, lk, Res.s.injEq, Res.r.injEq, reduceCtorEq, Nat.reduceEqDiff, if_true, if_false, List.length_set, List.length_replicate]; repeat' (first | apply And.intro | rfl | trivial | (simp only [*]; done)))
    | with_reducible refine sw_seq ?_
    | with_reducible refine seqQ_ret ?_
    | with_reducible refine seqQ_exit ?_
    | ((with_reducible refine wp_ite ?_ ?_)
       all_goals (intro hc; (try (simp only [Bool.not_eq_true, Bool.not_eq_false] at hc)); (try (revert h; first | (with_reducible refine condt_elim hc ?_; intro h) | (with_reducible refine condf_elim hc ?_; intro h) | fail)); simp only [hc]))
    | (with_reducible apply regW_skip
       · simp only [dstOk, Nat.reduceLT]
       · rfl
       · simp only [putSt, lk, Res.s.injEq, Res.r.injEq, reduceCtorEq, Nat.reduceEqDiff, if_true, if_false]; done)
    | (with_reducible apply regW_yesN
       · simp only [dstOk, Nat.reduceLT]
       · rfl
       · simp only [putSt, lk, Res.s.injEq, Res.r.injEq, reduceCtorEq, Nat.reduceEqDiff, if_true, if_false]; done)
    | (with_reducible apply regW_no
       · simp only [dstOk, Nat.reduceLT]
       · rfl
       · simp only [putSt, lk, Res.s.injEq, Res.r.injEq, reduceCtorEq, Nat.reduceEqDiff, if_true, if_false, Bool.not_true, Bool.not_false]; done)
    | (with_reducible apply regW_guardN
       · simp only [dstOk, Nat.reduceLT]
       · rfl
       · simp only [putSt, lk, Res.s.injEq, Res.r.injEq, reduceCtorEq, Nat.reduceEqDiff, if_true, if_false]; rfl
       all_goals (intro hc; (try (simp only [Bool.not_true, Bool.not_false] at hc)); (try (revert h; first | (with_reducible refine condt_elim hc ?_; intro h) | (with_reducible refine condf_elim hc ?_; intro h) | fail))))
    | ((with_reducible apply sw_cond
        · simp only [putSt, lk, Res.s.injEq, Res.r.injEq, reduceCtorEq, Nat.reduceEqDiff, if_true, if_false]; rfl
        all_goals (intro hc; try (cases hc; done)))
       all_goals (try (revert h; first | (with_reducible refine condt_elim hc ?_; intro h) | (with_reducible refine condf_elim hc ?_; intro h) | fail)))
    | ((first
        | ((with_reducible refine gh_ret ?_)
           revert h
           with_reducible refine some_elim ?_
           rintro rfl)
        | (with_reducible apply regD_opK
           · simp only [dstOk, Nat.reduceLT]
           · simp only [Nat.reduceAdd]; rfl
           intro k hk)
        | (with_reducible apply regW_opK
           · simp only [dstOk, Nat.reduceLT]
           · simp only [Nat.reduceAdd]; rfl
           intro k hk)
        | skip)
       simp only [RetW, bn, opC, opP, fetchN, fetchP, fetchAll, fetchO, Prog.bind, Prog.wp, Prog.wp_bind, lk, nameP, nameAll, Value.oneCell', putSt, stepP, putP, Res.s.injEq, Res.r.injEq, reduceCtorEq, V.lin, V.linL, D.lin, isNil, binP, unP, BinOp.isShift, Prog.ofO, true_and, and_true, Nat.reduceAdd, Nat.reduceMul, Nat.reduceSub, Nat.reduceLT, Nat.reduceLeDiff, Nat.reduceEqDiff, if_true, if_false, ite_true, ite_false, Bool.false_eq_true, Bool.not_true, Bool.not_false, Bool.or_false, Bool.or_true, fieldAddrP, fieldP, indexAddrP, loadP, storeP, boxP, allocP, cellsP, asVal, setSeg, outP, outT, cntT, TyK.field, TyK.agg, zeroRow, V.ren, V.renL, forall_eq_or_imp, implies_true, false_implies, forall_const, and_self, true_or, minmaxP, lenP, lenOf, lenStr, V.asInt, decide_true, decide_false, sliceP, boundP, makeSliceP, convertP, appendP, rowsOfP, ontoP, sizeFits, V.rowSize, TyK.src, resV, resV.go, resV.gol, retP, retOne, retAll, resTo, objsAre, Option.map_eq_map, Function.const_apply, Int.reduceNeg, Int.reduceToNat, ty2, ty3, ty44, ty49, GI3.cells, cI, cB, cS, cL, GI3_e, *]
       try (refine hk.use _ _ _ _ ?_; clear hk k))
    | fail)
  all_goals (try rfl)
  all_goals (try (simp; done))
  all_goals (try (simp_all; done))

end Go.Proofs.Ytdlaplgofgklnaa
namespace Go.Proofs.Ytdlaplgofgklnaa
open Go.Proofs Go.Proofs.Ytdlaplgofgklnaa.L
set_option maxHeartbeats 1000000
set_option linter.unusedSimpArgs false
set_option linter.unusedVariables false
set_option maxRecDepth 100000

def laws_heldLoopS.l1 : Nat → (List GI3) → Int → Int → Option ((Int) ⊕ (Int))
  | 0, _, _, _ => none
  | k + 1, a1, a2, a3 => cond ((decide (a3 < ((a1.length : Int))))) ((idx a1 a3).bind fun m1 => cond ((m1.a != a2)) (some (.inl ((-1)))) (cond ((m1.b != ((IntKind.i64.wrap (a2 + 1))))) (some (.inl ((-1)))) (cond ((m1.c != ((IntKind.i64.wrap (((IntKind.i64.wrap (a2 + 1))) + 1))))) (some (.inl ((-1)))) (laws_heldLoopS.l1 k a1 ((IntKind.i64.wrap (((IntKind.i64.wrap (((IntKind.i64.wrap (a2 + 1))) + 1))) + 1))) ((IntKind.i64.wrap (a3 + 1))))))) (some (.inr (a2)))

def laws_heldLoopS (k : Nat) (p0 : (List GI3)) (p1 : Int) : Option (Int) :=
  (laws_heldLoopS.l1 k p0 p1 0).bind fun o1 => Sum.elim (fun o1l => some o1l) (fun o1r => some o1r) o1

theorem c_laws_heldLoopS {k : Nat} {p0 : (List GI3)} {p1 : Int} {r : Int} (h : laws_heldLoopS k p0 p1 = some r) : Con Try.prog 26 [.d (.row .bor 3 (Rw GI3.cells p0)), V.int p1] [] (V.int r) [] := by
  refine con_of_sw Try.func26 rfl Try.call26 (by simp [Try.ntmps26]) (by simp [V.inNs, V.inN]) (by simp [C.inN, V.inNss, V.inNs, V.inN, inNss_dd]) (by simp [V.inNs, V.inN]) (by simp [C.inN, V.inNss, V.inNs, V.inN, inNss_dd]) rfl ?_
  rw [Try.ntmps26, Try.results26]
  unfold laws_heldLoopS at h
  replace h := Yes.mk h
  simp only [entryS, entryO, Nat.reduceAdd, List.length_nil, List.length_cons]
  repeat' (first
    | with_reducible refine sw_reg ?_
    | with_reducible refine sw_ret ?_
    | with_reducible refine sw_skip ?_
    | with_reducible refine sw_block ?_
    | with_reducible refine sw_exit ?_
    | with_reducible refine seqQ_normal ?_
    | with_reducible refine blockQ_normal ?_
    | with_reducible refine blockQ_ret ?_
    | with_reducible refine blockQ_this ?_
    | with_reducible refine blockQ_other (by decide) ?_
    | with_reducible refine regW_nil ?_
    | with_reducible refine sw_draw mixed ?_
    | (with_reducible refine regD_nil ?_
       refine ⟨by kernel_rfl, ?_⟩)
    | with_reducible refine retQ_ret ?_
    | with_reducible refine retQ_normal ?_
    | (revert h; (first | ((with_reducible refine idx_elim ?_); intro m hm1 hm2 hm3 h; (try (simp only [Int.reduceToNat] at hm3)); (try (revert hm3; (with_reducible apply same_elim); (focus (with_reducible assumption)); rintro rfl)); (try (simp only [List.length_set, List.length_cons, List.length_nil, List.length_replicate, Nat.reduceAdd, Int.cast_ofNat_Int, Nat.zero_add, List.length_append] at hm2))) | (with_reducible refine sidx_elim ?_; intro m hm1 hm3 h) | (with_reducible refine gd_elim ?_; intro hg h; try (have hg2 := hg.2; have hg := hg.1; (try (simp only [Nat.reduceLeDiff] at hg2)); (try (revert hg2; (with_reducible refine toNat_elim hg ?_); intro hg2 hg4)); try (have hg3 := hg2.2; have hg2 := hg2.1; (try (simp only [Nat.reduceLeDiff] at hg3))))) | fail))
    | ((first | with_reducible refine seqQ_ret (K := (fun st1 n1 => Gh st1 n1 (NextS _ 10000000 _ _ _ _))) ?_ | with_reducible refine seqQ_exit (K := (fun st1 n1 => Gh st1 n1 (NextS _ 10000000 _ _ _ _))) ?_)
       obtain rfl := h.get
       have h := hK1
       (try (simp only [Sum.elim_inl, Sum.elim_inr] at h)))
    | (with_reducible refine here_loop (c := (.seq (.seq (.region 2 _ _) _) _)) ?_
       skip
       revert h
       with_reducible refine bind_elimY ?_
       intro o1 h hK1
       refine sw_loop (ι := Nat × (List GI3) × Int × Int) 10000000 (by decide) (fun x : Nat × (List GI3) × Int × Int => [(.s 0, some (.v (.d (.row .bor 3 (Rw GI3.cells x.2.1))))), (.s 1, some (.v (V.int x.2.2.1))), (.s 5, some (.v (V.int x.2.2.2)))]) (fun x => x.1) (fun x => Yes (laws_heldLoopS.l1 x.1 x.2.1 x.2.2.1 x.2.2.2) o1) (_, _, _, _) ?_ h ?_ ?_
       · exact (by simp [slNL, C.inN, V.inN, V.inNs, V.inNss, inNss_dd, inNs_map_d])
       · simp only [SubL, putSt, lk, Res.s.injEq, Res.r.injEq, reduceCtorEq, Nat.reduceEqDiff, if_true, if_false, List.length_set, List.length_replicate]; repeat' (first | apply And.intro | rfl | trivial | (simp only [*]; done))
       rintro ⟨_ | k, a1, a2, a3⟩ h
       · simp only [laws_heldLoopS.l1] at h; exact h.none
       simp only [laws_heldLoopS.l1] at h
)
    | (with_reducible refine here_next (N0 := 10000000) ?_
       skip
       refine nexts_to (_, _, _, _) (by decide) ?_ (Nat.lt_succ_self _) h ?_
       · exact (by simp [slNL, C.inN, V.inN, V.inNs, V.inNss, inNss_dd, inNs_map_d])
       · simp only [SubL, putSt, lk, Res.s.injEq, Res.r.injEq, reduceCtorEq, Nat.reduceEqDiff, if_true, if_false, List.length_set, List.length_replicate]; repeat' (first | apply And.intro | rfl | trivial | (simp only [*]; done)))
    | with_reducible refine sw_seq ?_
    | with_reducible refine seqQ_ret ?_
    | with_reducible refine seqQ_exit ?_
    | ((with_reducible refine wp_ite ?_ ?_)
       all_goals (intro hc; (try (simp only [Bool.not_eq_true, Bool.not_eq_false] at hc)); (try (revert h; first | (with_reducible refine condt_elim hc ?_; intro h) | (with_reducible refine condf_elim hc ?_; intro h) | fail)); simp only [hc]))
    | (with_reducible apply regW_skip
       · simp only [dstOk, Nat.reduceLT]
       · rfl
       · simp only [putSt, lk, Res.s.injEq, Res.r.injEq, reduceCtorEq, Nat.reduceEqDiff, if_true, if_false]; done)
    | (with_reducible apply regW_yesN
       · simp only [dstOk, Nat.reduceLT]
       · rfl
       · simp only [putSt, lk, Res.s.injEq, Res.r.injEq, reduceCtorEq, Nat.reduceEqDiff, if_true, if_false]; done)
    | (with_reducible apply regW_no
       · simp only [dstOk, Nat.reduceLT]
       · rfl
       · simp only [putSt, lk, Res.s.injEq, Res.r.injEq, reduceCtorEq, Nat.reduceEqDiff, if_true, if_false, Bool.not_true, Bool.not_false]; done)
    | (with_reducible apply regW_guardN
       · simp only [dstOk, Nat.reduceLT]
       · rfl
       · simp only [putSt, lk, Res.s.injEq, Res.r.injEq, reduceCtorEq, Nat.reduceEqDiff, if_true, if_false]; rfl
       all_goals (intro hc; (try (simp only [Bool.not_true, Bool.not_false] at hc)); (try (revert h; first | (with_reducible refine condt_elim hc ?_; intro h) | (with_reducible refine condf_elim hc ?_; intro h) | fail))))
    | ((with_reducible apply sw_cond
        · simp only [putSt, lk, Res.s.injEq, Res.r.injEq, reduceCtorEq, Nat.reduceEqDiff, if_true, if_false]; rfl
        all_goals (intro hc; try (cases hc; done)))
       all_goals (try (revert h; first | (with_reducible refine condt_elim hc ?_; intro h) | (with_reducible refine condf_elim hc ?_; intro h) | fail)))
    | ((first
        | ((with_reducible refine gh_ret ?_)
           revert h
           with_reducible refine some_elim ?_
           rintro rfl)
        | (with_reducible apply regD_opK
           · simp only [dstOk, Nat.reduceLT]
           · simp only [Nat.reduceAdd]; rfl
           intro k hk)
        | (with_reducible apply regW_opK
           · simp only [dstOk, Nat.reduceLT]
           · simp only [Nat.reduceAdd]; rfl
           intro k hk)
        | skip)
       simp only [RetW, bn, opC, opP, fetchN, fetchP, fetchAll, fetchO, Prog.bind, Prog.wp, Prog.wp_bind, lk, nameP, nameAll, Value.oneCell', putSt, stepP, putP, Res.s.injEq, Res.r.injEq, reduceCtorEq, V.lin, V.linL, D.lin, isNil, binP, unP, BinOp.isShift, Prog.ofO, true_and, and_true, Nat.reduceAdd, Nat.reduceMul, Nat.reduceSub, Nat.reduceLT, Nat.reduceLeDiff, Nat.reduceEqDiff, if_true, if_false, ite_true, ite_false, Bool.false_eq_true, Bool.not_true, Bool.not_false, Bool.or_false, Bool.or_true, fieldAddrP, fieldP, indexAddrP, loadP, storeP, boxP, allocP, cellsP, asVal, setSeg, outP, outT, cntT, TyK.field, TyK.agg, zeroRow, V.ren, V.renL, forall_eq_or_imp, implies_true, false_implies, forall_const, and_self, true_or, minmaxP, lenP, lenOf, lenStr, V.asInt, decide_true, decide_false, sliceP, boundP, makeSliceP, convertP, appendP, rowsOfP, ontoP, sizeFits, V.rowSize, TyK.src, resV, resV.go, resV.gol, retP, retOne, retAll, resTo, objsAre, Option.map_eq_map, Function.const_apply, Int.reduceNeg, Int.reduceToNat, ty2, ty3, ty44, ty49, GI3.cells, cI, cB, cS, cL, GI3_e, *]
       try (refine hk.use _ _ _ _ ?_; clear hk k))
    | fail)
  all_goals (try rfl)
  all_goals (try (simp; done))
  all_goals (try (simp_all; done))

end Go.Proofs.Ytdlaplgofgklnaa
namespace Go.Proofs.Ytdlaplgofgklnaa
open Go.Proofs Go.Proofs.Ytdlaplgofgklnaa.L
set_option maxHeartbeats 1000000
set_option linter.unusedSimpArgs false
set_option linter.unusedVariables false
set_option maxRecDepth 100000

def laws_FnExactLoops.a1 (k : Nat) (a1 : (List GFunc)) (a2 : (List GI3)) (a3 : (List GI3)) (a4 : Int) (a5 : Int) : Option ((Bool) ⊕ ((List GFunc) × (List GI3) × (List GI3) × Int)) :=
  cond ((decide (a5 < 0))) (some (.inl (false))) ((laws_eqLoopS k a3 a2).bind fun t10 => cond ((!t10)) (some (.inl (false))) (some (.inr (a1, a2, a3, a4))))

def laws_FnExactLoops (k : Nat) (p0 : GProgram) (p1 : Int) : Option (Bool) :=
  (laws_szProgram k p0 1048576).bind fun t1 => cond ((decide (t1 < 0))) (some true) ((laws_toProgram k p0).bind fun t2 => (spec_Loops k t2 p1).bind fun t3 => (laws_toProgram k p0).bind fun t4 => (impl_Loops k t4 p1).bind fun t5 => (laws_eqLoopS k t5 t3).bind fun t6 => cond ((!t6)) (some false) ((laws_toProgram k p0).bind fun t7 => (laws_eqProgram k t4 t7).bind fun t8 => cond ((!t8)) (some false) ((laws_markProgram k t4 1).bind fun t9 => gd (t9.2.length = t4.funcs.length) ((laws_FnExactLoops.a1 k p0.funcs t3 t5 p1 t9.1).bind fun o1 => Sum.elim (fun o1l => some o1l) (fun o1r => (laws_markLoopS k o1r.2.2.1 1).bind fun t11 => gd (t11.2.length = o1r.2.2.1.length) ((laws_heldLoopS k t11.2 1).bind fun t12 => cond ((decide (t12 < 0))) (some false) (cond ((t12 != t11.1)) (some false) ((laws_toProgram k ((⟨o1r.1⟩ : GProgram))).bind fun t13 => (impl_Loops k t13 o1r.2.2.2).bind fun t14 => (laws_eqLoopS k t14 o1r.2.1).bind fun t15 => cond ((!t15)) (some false) ((laws_heldLoopS k t11.2 1).bind fun t16 => cond ((decide (t16 < 0))) (some false) (cond ((t16 != t11.1)) (some false) (some true))))))) o1))))

theorem c_laws_FnExactLoops {k : Nat} {p0 : GProgram} {p1 : Int} {r : Bool} (h : laws_FnExactLoops k p0 p1 = some r) : Con Try.prog 6 [.agg [.d (.row .bor 3 (Rw (GFunc.cells .bor) p0.funcs))], V.int p1] [] (V.bool r) [] := by
  refine con_of_sw Try.func6 rfl Try.call6 (by simp [Try.ntmps6]) (by simp [V.inNs, V.inN]) (by simp [C.inN, V.inNss, V.inNs, V.inN, inNss_dd]) (by simp [V.inNs, V.inN]) (by simp [C.inN, V.inNss, V.inNs, V.inN, inNss_dd]) rfl ?_
  rw [Try.ntmps6, Try.results6]
  unfold laws_FnExactLoops at h
  replace h := Yes.mk h
  simp only [entryS, entryO, Nat.reduceAdd, List.length_nil, List.length_cons]
  repeat' (first
    | with_reducible refine sw_reg ?_
    | with_reducible refine sw_ret ?_
    | with_reducible refine sw_skip ?_
    | with_reducible refine sw_block ?_
    | with_reducible refine sw_exit ?_
    | with_reducible refine seqQ_normal ?_
    | with_reducible refine blockQ_normal ?_
    | with_reducible refine blockQ_ret ?_
    | with_reducible refine blockQ_this ?_
    | with_reducible refine blockQ_other (by decide) ?_
    | with_reducible refine regW_nil ?_
    | with_reducible refine sw_draw mixed ?_
    | (with_reducible refine regD_nil ?_
       refine ⟨by kernel_rfl, ?_⟩)
    | with_reducible refine retQ_ret ?_
    | with_reducible refine retQ_normal ?_
    | (revert h; (first | ((with_reducible refine idx_elim ?_); intro m hm1 hm2 hm3 h; (try (simp only [Int.reduceToNat] at hm3)); (try (revert hm3; (with_reducible apply same_elim); (focus (with_reducible assumption)); rintro rfl)); (try (simp only [List.length_set, List.length_cons, List.length_nil, List.length_replicate, Nat.reduceAdd, Int.cast_ofNat_Int, Nat.zero_add, List.length_append] at hm2))) | (with_reducible refine sidx_elim ?_; intro m hm1 hm3 h) | (with_reducible refine gd_elim ?_; intro hg h; try (have hg2 := hg.2; have hg := hg.1; (try (simp only [Nat.reduceLeDiff] at hg2)); (try (revert hg2; (with_reducible refine toNat_elim hg ?_); intro hg2 hg4)); try (have hg3 := hg2.2; have hg2 := hg2.1; (try (simp only [Nat.reduceLeDiff] at hg3))))) | fail))
    | ((first | with_reducible refine seqQ_ret (K := (fun st1 n1 => Gh st1 n1 (MeetA _ 10000000 _ _))) ?_ | with_reducible refine seqQ_exit (K := (fun st1 n1 => Gh st1 n1 (MeetA _ 10000000 _ _))) ?_)
       obtain rfl := h.get
       have h := hK1
       (try (simp only [Sum.elim_inl, Sum.elim_inr] at h)))
    | (with_reducible refine here_join (a := (.seq (.region 14 _ _) _)) (b := (.seq (.region 16 _ _) _)) ?_
       skip
       revert h
       with_reducible refine bind_elimY ?_
       intro o1 h hK1
       unfold laws_FnExactLoops.a1 at h
       refine sw_join (ι := (List GFunc) × (List GI3) × (List GI3) × Int) 10000000 (fun x : (List GFunc) × (List GI3) × (List GI3) × Int => [(.s 1, some (.v (V.int x.2.2.2))), (.s 2, some (.v (.mp 0 1 0 0))), (.s 6, some (.v (.sl 768 3 0 x.2.1.length))), (.s 8, some (.v (.sl 1280 3 0 x.2.2.1.length))), (.r 0, some (.o 1 [[.d (.row .bor 3 (Rw (GFunc.cells .bor) x.1))]])), (.r 768, some (.o 3 (dd (Rw GI3.cells x.2.1)))), (.r 1280, some (.o 3 (dd (Rw GI3.cells x.2.2.1))))]) (fun x => Yes (some (.inr x)) o1) ?_ ?_
       rotate_left
       rintro ⟨b1, b2, b3, b4⟩ h
       obtain rfl := h.get
       have h := hK1
       (try (simp only [Sum.elim_inl, Sum.elim_inr] at h))
       refine sw_gh ?_
       refine gh_sw ?_
       skip)
    | (with_reducible refine here_meet (N0 := 10000000) ?_
       skip
       refine meet_to (_, _, _, _) (by decide) ?_ h ?_
       · exact (by simp [slNL, C.inN, V.inN, V.inNs, V.inNss, inNss_dd, inNs_map_d])
       · simp only [SubL, putSt, lk, Res.s.injEq, Res.r.injEq, reduceCtorEq, Nat.reduceEqDiff, if_true, if_false, List.length_set, List.length_replicate]; repeat' (first | apply And.intro | rfl | trivial | (simp only [*]; done)))
    | with_reducible refine sw_seq ?_
    | with_reducible refine seqQ_ret ?_
    | with_reducible refine seqQ_exit ?_
    | ((with_reducible refine wp_ite ?_ ?_)
       all_goals (intro hc; (try (simp only [Bool.not_eq_true, Bool.not_eq_false] at hc)); (try (revert h; first | (with_reducible refine condt_elim hc ?_; intro h) | (with_reducible refine condf_elim hc ?_; intro h) | fail)); simp only [hc]))
    | (with_reducible apply regW_skip
       · simp only [dstOk, Nat.reduceLT]
       · rfl
       · simp only [putSt, lk, Res.s.injEq, Res.r.injEq, reduceCtorEq, Nat.reduceEqDiff, if_true, if_false]; done)
    | (with_reducible apply regW_yesN
       · simp only [dstOk, Nat.reduceLT]
       · rfl
       · simp only [putSt, lk, Res.s.injEq, Res.r.injEq, reduceCtorEq, Nat.reduceEqDiff, if_true, if_false]; done)
    | (with_reducible apply regW_no
       · simp only [dstOk, Nat.reduceLT]
       · rfl
       · simp only [putSt, lk, Res.s.injEq, Res.r.injEq, reduceCtorEq, Nat.reduceEqDiff, if_true, if_false, Bool.not_true, Bool.not_false]; done)
    | (with_reducible apply regW_guardN
       · simp only [dstOk, Nat.reduceLT]
       · rfl
       · simp only [putSt, lk, Res.s.injEq, Res.r.injEq, reduceCtorEq, Nat.reduceEqDiff, if_true, if_false]; rfl
       all_goals (intro hc; (try (simp only [Bool.not_true, Bool.not_false] at hc)); (try (revert h; first | (with_reducible refine condt_elim hc ?_; intro h) | (with_reducible refine condf_elim hc ?_; intro h) | fail))))
    | ((with_reducible apply sw_cond
        · simp only [putSt, lk, Res.s.injEq, Res.r.injEq, reduceCtorEq, Nat.reduceEqDiff, if_true, if_false]; rfl
        all_goals (intro hc; try (cases hc; done)))
       all_goals (try (revert h; first | (with_reducible refine condt_elim hc ?_; intro h) | (with_reducible refine condf_elim hc ?_; intro h) | fail)))
    | ((first
        | ((with_reducible refine gh_ret ?_)
           revert h
           with_reducible refine some_elim ?_
           rintro rfl)
        | (with_reducible refine here_call ?_
           revert h
           with_reducible refine bind_elim ?_
           intro t ht h
           (first
             | (refine call_dataE (c_laws_szProgram ht) ?_ rfl ?_
                · first | rfl | (simp; done))
             | (refine call_dataE (c_laws_toProgram ht) ?_ rfl ?_
                · first | rfl | (simp; done))
             | (refine call_autoE (c_laws_eqProgram ht) ?_ ?_ ?_
                · simp only [List.length_set, List.length_replicate, lendAL, lendA, Option.bind_some, Option.map_some, undd_dd, dd_length, dd_take, dd_drop, Rw_length, Rw_take, Rw_drop, Nat.zero_add, Nat.add_zero, Nat.le_refl, true_and, and_true, and_self, List.take_length, List.drop_zero, C.o.injEq, V.d.injEq, undd.unddR, List.getElem?_cons_zero, List.length_cons, List.length_nil, Nat.zero_le, D.lendL, D.lend, Md.lend, List.map_cons, List.map_nil, cI_lend, cB_lend, cS_lend, GI2_lend, GFunc_lend, GProgram_lend, GI3_lend, LGI2_lend, List.take_of_length_le, putSt, lk, Res.s.injEq, Res.r.injEq, reduceCtorEq, Nat.reduceEqDiff, if_true, if_false, *]; first | rfl | done
                · first | rfl | (simp only [V.nb, V.nbL, D.nb, D.nbL, Md.nb, cI_nb, cB_nb, cS_nb, Bool.and_self, Bool.and_true, GI2_nb, GFunc_nb, GProgram_nb, GI3_nb, LGI2_nb]; done)
                simp only [V.namesOf, V.namesOfL, List.foldl_cons, List.foldl_nil, List.nil_append, List.append_nil, List.cons_append])
             | (refine call_obj [960] (c_laws_markProgram ht) (by decide) ?_ ?_
                · first | exact .inl rfl | (refine .inr ⟨?_, ?_⟩; (focus (first | rfl | (simp only [V.nb, V.nbL, D.nb, D.nbL, Md.nb, cI_nb, cB_nb, cS_nb, Bool.and_self, Bool.and_true, GI2_nb, GFunc_nb, GProgram_nb, GI3_nb, LGI2_nb]; done))); (focus (simp [C.nb, V.nbLL, V.nbL, V.nb, D.nb]; done)))
                simp only [argsP, argP, V.namesOf, V.namesOfL, List.mem_append, List.append_nil, List.mem_cons, or_false, or_true, true_or, objsP, C.ren, V.ren, V.renL, renLL_dd, V.renLL, List.getD_cons_zero, List.getD_cons_succ, C.o.injEq, List.length_set, List.length_replicate, lendAL, lendA, Option.bind_some, Option.map_some, undd_dd, dd_length, dd_take, dd_drop, Rw_length, Rw_take, Rw_drop, Nat.zero_add, Nat.add_zero, Nat.le_refl, true_and, and_true, and_self, List.take_length, List.drop_zero, C.o.injEq, V.d.injEq, undd.unddR, List.getElem?_cons_zero, List.length_cons, List.length_nil, Nat.zero_le, D.lendL, D.lend, Md.lend, List.map_cons, List.map_nil, cI_lend, cB_lend, cS_lend, GI2_lend, GFunc_lend, GProgram_lend, GI3_lend, LGI2_lend, putSt, lk, Res.s.injEq, Res.r.injEq, reduceCtorEq, Nat.reduceEqDiff, if_true, if_false, Prog.wp, Prog.wp_bind, Prog.bind, Prog.ofO, List.take_of_length_le, *])
             | (refine call_autoE (c_spec_Loops ht) ?_ ?_ ?_
                · simp only [List.length_set, List.length_replicate, lendAL, lendA, Option.bind_some, Option.map_some, undd_dd, dd_length, dd_take, dd_drop, Rw_length, Rw_take, Rw_drop, Nat.zero_add, Nat.add_zero, Nat.le_refl, true_and, and_true, and_self, List.take_length, List.drop_zero, C.o.injEq, V.d.injEq, undd.unddR, List.getElem?_cons_zero, List.length_cons, List.length_nil, Nat.zero_le, D.lendL, D.lend, Md.lend, List.map_cons, List.map_nil, cI_lend, cB_lend, cS_lend, GI2_lend, GFunc_lend, GProgram_lend, GI3_lend, LGI2_lend, List.take_of_length_le, putSt, lk, Res.s.injEq, Res.r.injEq, reduceCtorEq, Nat.reduceEqDiff, if_true, if_false, *]; first | rfl | done
                · first | rfl | (simp only [V.nb, V.nbL, D.nb, D.nbL, Md.nb, cI_nb, cB_nb, cS_nb, Bool.and_self, Bool.and_true, GI2_nb, GFunc_nb, GProgram_nb, GI3_nb, LGI2_nb]; done)
                simp only [V.namesOf, V.namesOfL, List.foldl_cons, List.foldl_nil, List.nil_append, List.append_nil, List.cons_append])
             | (refine call_autoE (c_impl_Loops ht) ?_ ?_ ?_
                · simp only [List.length_set, List.length_replicate, lendAL, lendA, Option.bind_some, Option.map_some, undd_dd, dd_length, dd_take, dd_drop, Rw_length, Rw_take, Rw_drop, Nat.zero_add, Nat.add_zero, Nat.le_refl, true_and, and_true, and_self, List.take_length, List.drop_zero, C.o.injEq, V.d.injEq, undd.unddR, List.getElem?_cons_zero, List.length_cons, List.length_nil, Nat.zero_le, D.lendL, D.lend, Md.lend, List.map_cons, List.map_nil, cI_lend, cB_lend, cS_lend, GI2_lend, GFunc_lend, GProgram_lend, GI3_lend, LGI2_lend, List.take_of_length_le, putSt, lk, Res.s.injEq, Res.r.injEq, reduceCtorEq, Nat.reduceEqDiff, if_true, if_false, *]; first | rfl | done
                · first | rfl | (simp only [V.nb, V.nbL, D.nb, D.nbL, Md.nb, cI_nb, cB_nb, cS_nb, Bool.and_self, Bool.and_true, GI2_nb, GFunc_nb, GProgram_nb, GI3_nb, LGI2_nb]; done)
                simp only [V.namesOf, V.namesOfL, List.foldl_cons, List.foldl_nil, List.nil_append, List.append_nil, List.cons_append])
             | (refine call_autoE (c_laws_eqLoopS ht) ?_ ?_ ?_
                · simp only [List.length_set, List.length_replicate, lendAL, lendA, Option.bind_some, Option.map_some, undd_dd, dd_length, dd_take, dd_drop, Rw_length, Rw_take, Rw_drop, Nat.zero_add, Nat.add_zero, Nat.le_refl, true_and, and_true, and_self, List.take_length, List.drop_zero, C.o.injEq, V.d.injEq, undd.unddR, List.getElem?_cons_zero, List.length_cons, List.length_nil, Nat.zero_le, D.lendL, D.lend, Md.lend, List.map_cons, List.map_nil, cI_lend, cB_lend, cS_lend, GI2_lend, GFunc_lend, GProgram_lend, GI3_lend, LGI2_lend, List.take_of_length_le, putSt, lk, Res.s.injEq, Res.r.injEq, reduceCtorEq, Nat.reduceEqDiff, if_true, if_false, *]; first | rfl | done
                · first | rfl | (simp only [V.nb, V.nbL, D.nb, D.nbL, Md.nb, cI_nb, cB_nb, cS_nb, Bool.and_self, Bool.and_true, GI2_nb, GFunc_nb, GProgram_nb, GI3_nb, LGI2_nb]; done)
                simp only [V.namesOf, V.namesOfL, List.foldl_cons, List.foldl_nil, List.nil_append, List.append_nil, List.cons_append])
             | (refine call_obj [1280] (c_laws_markLoopS ht) (by decide) ?_ ?_
                · first | exact .inl rfl | (refine .inr ⟨?_, ?_⟩; (focus (first | rfl | (simp only [V.nb, V.nbL, D.nb, D.nbL, Md.nb, cI_nb, cB_nb, cS_nb, Bool.and_self, Bool.and_true, GI2_nb, GFunc_nb, GProgram_nb, GI3_nb, LGI2_nb]; done))); (focus (simp [C.nb, V.nbLL, V.nbL, V.nb, D.nb]; done)))
                simp only [argsP, argP, V.namesOf, V.namesOfL, List.mem_append, List.append_nil, List.mem_cons, or_false, or_true, true_or, objsP, C.ren, V.ren, V.renL, renLL_dd, V.renLL, List.getD_cons_zero, List.getD_cons_succ, C.o.injEq, List.length_set, List.length_replicate, lendAL, lendA, Option.bind_some, Option.map_some, undd_dd, dd_length, dd_take, dd_drop, Rw_length, Rw_take, Rw_drop, Nat.zero_add, Nat.add_zero, Nat.le_refl, true_and, and_true, and_self, List.take_length, List.drop_zero, C.o.injEq, V.d.injEq, undd.unddR, List.getElem?_cons_zero, List.length_cons, List.length_nil, Nat.zero_le, D.lendL, D.lend, Md.lend, List.map_cons, List.map_nil, cI_lend, cB_lend, cS_lend, GI2_lend, GFunc_lend, GProgram_lend, GI3_lend, LGI2_lend, putSt, lk, Res.s.injEq, Res.r.injEq, reduceCtorEq, Nat.reduceEqDiff, if_true, if_false, Prog.wp, Prog.wp_bind, Prog.bind, Prog.ofO, List.take_of_length_le, *])
             | (refine call_autoE (c_laws_heldLoopS ht) ?_ ?_ ?_
                · simp only [List.length_set, List.length_replicate, lendAL, lendA, Option.bind_some, Option.map_some, undd_dd, dd_length, dd_take, dd_drop, Rw_length, Rw_take, Rw_drop, Nat.zero_add, Nat.add_zero, Nat.le_refl, true_and, and_true, and_self, List.take_length, List.drop_zero, C.o.injEq, V.d.injEq, undd.unddR, List.getElem?_cons_zero, List.length_cons, List.length_nil, Nat.zero_le, D.lendL, D.lend, Md.lend, List.map_cons, List.map_nil, cI_lend, cB_lend, cS_lend, GI2_lend, GFunc_lend, GProgram_lend, GI3_lend, LGI2_lend, List.take_of_length_le, putSt, lk, Res.s.injEq, Res.r.injEq, reduceCtorEq, Nat.reduceEqDiff, if_true, if_false, *]; first | rfl | done
                · first | rfl | (simp only [V.nb, V.nbL, D.nb, D.nbL, Md.nb, cI_nb, cB_nb, cS_nb, Bool.and_self, Bool.and_true, GI2_nb, GFunc_nb, GProgram_nb, GI3_nb, LGI2_nb]; done)
                simp only [V.namesOf, V.namesOfL, List.foldl_cons, List.foldl_nil, List.nil_append, List.append_nil, List.cons_append])))
        | (with_reducible apply regD_opK
           · simp only [dstOk, Nat.reduceLT]
           · simp only [Nat.reduceAdd]; rfl
           intro k hk)
        | (with_reducible apply regW_opK
           · simp only [dstOk, Nat.reduceLT]
           · simp only [Nat.reduceAdd]; rfl
           intro k hk)
        | skip)
       simp only [RetW, bn, opC, opP, fetchN, fetchP, fetchAll, fetchO, Prog.bind, Prog.wp, Prog.wp_bind, lk, nameP, nameAll, Value.oneCell', putSt, stepP, putP, Res.s.injEq, Res.r.injEq, reduceCtorEq, V.lin, V.linL, D.lin, isNil, binP, unP, BinOp.isShift, Prog.ofO, true_and, and_true, Nat.reduceAdd, Nat.reduceMul, Nat.reduceSub, Nat.reduceLT, Nat.reduceLeDiff, Nat.reduceEqDiff, if_true, if_false, ite_true, ite_false, Bool.false_eq_true, Bool.not_true, Bool.not_false, Bool.or_false, Bool.or_true, fieldAddrP, fieldP, indexAddrP, loadP, storeP, boxP, allocP, cellsP, asVal, setSeg, outP, outT, cntT, TyK.field, TyK.agg, zeroRow, V.ren, V.renL, forall_eq_or_imp, implies_true, false_implies, forall_const, and_self, true_or, minmaxP, lenP, lenOf, lenStr, V.asInt, decide_true, decide_false, sliceP, boundP, makeSliceP, convertP, appendP, rowsOfP, ontoP, sizeFits, V.rowSize, TyK.src, resV, resV.go, resV.gol, retP, retOne, retAll, resTo, objsAre, Option.map_eq_map, Function.const_apply, Int.reduceNeg, Int.reduceToNat, ty2, ty3, ty4, ty22, ty24, ty28, ty30, ty44, ty49, ty63, ty65, ty101, ty103, ty107, ty159, GFunc.cells, GI2.cells, GI3.cells, GProgram.cells, cI, cB, cS, cL, GI2_e, GFunc_e, GProgram_e, GI3_e, LGI2_e, *]
       try (refine hk.use _ _ _ _ ?_; clear hk k))
    | fail)
  all_goals (try rfl)
  all_goals (try (simp; done))
  all_goals (try (simp_all; done))

end Go.Proofs.Ytdlaplgofgklnaa
namespace Go.Proofs.Ytdlaplgofgklnaa
open Go.Proofs Go.Proofs.Ytdlaplgofgklnaa.L
set_option maxHeartbeats 1000000
set_option linter.unusedSimpArgs false
set_option linter.unusedVariables false
set_option maxRecDepth 100000

def laws_toInt64S.l1 : Nat → (List Int) → (List Int) → Int → Option ((List Int))
  | 0, _, _, _ => none
  | k + 1, a1, a2, a3 => cond ((decide (a3 < ((a2.length : Int))))) ((idx a2 a3).bind fun m1 => (idx a1 a3).bind fun m2 => laws_toInt64S.l1 k ((a1.set a3.toNat m1)) a2 ((IntKind.i64.wrap (a3 + 1)))) (some (a1))

def laws_toInt64S (k : Nat) (p0 : (List Int)) : Option ((List Int)) :=
  gd (0 ≤ (p0.length : Int) ∧ ((p0.length : Int)) * 8 ≤ 35184372088832 ∧ (p0.length : Int) ≤ 35184372088832) ((laws_toInt64S.l1 k ((List.replicate p0.length 0)) p0 0).bind fun o1 => some o1)

end Go.Proofs.Ytdlaplgofgklnaa
namespace Go.Proofs.Ytdlaplgofgklnaa
open Go.Proofs Go.Proofs.Ytdlaplgofgklnaa.L
set_option maxHeartbeats 1000000
set_option linter.unusedSimpArgs false
set_option linter.unusedVariables false
set_option maxRecDepth 100000

end Go.Proofs.Ytdlaplgofgklnaa
namespace Go.Proofs.Ytdlaplgofgklnaa
open Go.Proofs Go.Proofs.Ytdlaplgofgklnaa.L
set_option maxHeartbeats 1000000
set_option linter.unusedSimpArgs false
set_option linter.unusedVariables false
set_option maxRecDepth 100000

end Go.Proofs.Ytdlaplgofgklnaa
namespace Go.Proofs.Ytdlaplgofgklnaa
open Go.Proofs Go.Proofs.Ytdlaplgofgklnaa.L
set_option maxHeartbeats 1000000
set_option linter.unusedSimpArgs false
set_option linter.unusedVariables false
set_option maxRecDepth 100000

end Go.Proofs.Ytdlaplgofgklnaa
namespace Go.Proofs.Ytdlaplgofgklnaa
open Go.Proofs Go.Proofs.Ytdlaplgofgklnaa.L
set_option maxHeartbeats 1000000
set_option linter.unusedSimpArgs false
set_option linter.unusedVariables false
set_option maxRecDepth 100000

end Go.Proofs.Ytdlaplgofgklnaa
namespace Go.Proofs.Ytdlaplgofgklnaa
open Go.Proofs Go.Proofs.Ytdlaplgofgklnaa.L
set_option maxHeartbeats 1000000
set_option linter.unusedSimpArgs false
set_option linter.unusedVariables false
set_option maxRecDepth 100000

end Go.Proofs.Ytdlaplgofgklnaa
namespace Go.Proofs.Ytdlaplgofgklnaa
open Go.Proofs Go.Proofs.Ytdlaplgofgklnaa.L
set_option maxHeartbeats 1000000
set_option linter.unusedSimpArgs false
set_option linter.unusedVariables false
set_option maxRecDepth 100000

def laws_eqVal (p0 : GI2) (p1 : GI2) : Option (Bool) :=
  cond ((p0.a != p1.a)) (some false) (cond ((p0.b != p1.b)) (some false) (some true))

end Go.Proofs.Ytdlaplgofgklnaa
namespace Go.Proofs.Ytdlaplgofgklnaa
open Go.Proofs Go.Proofs.Ytdlaplgofgklnaa.L
set_option maxHeartbeats 1000000
set_option linter.unusedSimpArgs false
set_option linter.unusedVariables false
set_option maxRecDepth 100000

def laws_eqMov (p0 : GMov) (p1 : GMov) : Option (Bool) :=
  cond ((p0.to != p1.to)) (some false) ((laws_eqVal p0.from0 p1.from0).bind fun t1 => cond ((!t1)) (some false) (some true))

end Go.Proofs.Ytdlaplgofgklnaa
namespace Go.Proofs.Ytdlaplgofgklnaa
open Go.Proofs Go.Proofs.Ytdlaplgofgklnaa.L
set_option maxHeartbeats 1000000
set_option linter.unusedSimpArgs false
set_option linter.unusedVariables false
set_option maxRecDepth 100000

def laws_eqMovS.l1 : Nat → (List GMov) → (List GMov) → Int → Option ((Bool) ⊕ (Unit))
  | 0, _, _, _ => none
  | k + 1, a1, a2, a3 => cond ((decide (a3 < ((a1.length : Int))))) ((idx a1 a3).bind fun m1 => (idx a2 a3).bind fun m2 => (laws_eqMov m1 m2).bind fun t3 => cond ((!t3)) (some (.inl (false))) (laws_eqMovS.l1 k a1 a2 ((IntKind.i64.wrap (a3 + 1))))) (some (.inr ()))

def laws_eqMovS (k : Nat) (p0 : (List GMov)) (p1 : (List GMov)) : Option (Bool) :=
  cond ((((p0.length : Int)) != ((p1.length : Int)))) (some false) ((laws_eqMovS.l1 k p0 p1 0).bind fun o1 => Sum.elim (fun o1l => some o1l) (fun o1r => some true) o1)

end Go.Proofs.Ytdlaplgofgklnaa
namespace Go.Proofs.Ytdlaplgofgklnaa
open Go.Proofs Go.Proofs.Ytdlaplgofgklnaa.L
set_option maxHeartbeats 1000000
set_option linter.unusedSimpArgs false
set_option linter.unusedVariables false
set_option maxRecDepth 100000

def laws_eqValS.l1 : Nat → (List GI2) → (List GI2) → Int → Option ((Bool) ⊕ (Unit))
  | 0, _, _, _ => none
  | k + 1, a1, a2, a3 => cond ((decide (a3 < ((a1.length : Int))))) ((idx a1 a3).bind fun m1 => (idx a2 a3).bind fun m2 => (laws_eqVal m1 m2).bind fun t3 => cond ((!t3)) (some (.inl (false))) (laws_eqValS.l1 k a1 a2 ((IntKind.i64.wrap (a3 + 1))))) (some (.inr ()))

def laws_eqValS (k : Nat) (p0 : (List GI2)) (p1 : (List GI2)) : Option (Bool) :=
  cond ((((p0.length : Int)) != ((p1.length : Int)))) (some false) ((laws_eqValS.l1 k p0 p1 0).bind fun o1 => Sum.elim (fun o1l => some o1l) (fun o1r => some true) o1)

end Go.Proofs.Ytdlaplgofgklnaa
namespace Go.Proofs.Ytdlaplgofgklnaa
open Go.Proofs Go.Proofs.Ytdlaplgofgklnaa.L
set_option maxHeartbeats 1000000
set_option linter.unusedSimpArgs false
set_option linter.unusedVariables false
set_option maxRecDepth 100000

def laws_eqAsmIns (k : Nat) (p0 : GAsmIns) (p1 : GAsmIns) : Option (Bool) :=
  (laws_eqMovS k p0.pre p1.pre).bind fun t1 => cond ((!t1)) (some false) (cond ((p0.op != p1.op)) (some false) (cond ((p0.to != p1.to)) (some false) ((laws_eqValS k p0.l p1.l).bind fun t2 => cond ((!t2)) (some false) (cond ((p0.t != p1.t)) (some false) (some true)))))

end Go.Proofs.Ytdlaplgofgklnaa
namespace Go.Proofs.Ytdlaplgofgklnaa
open Go.Proofs Go.Proofs.Ytdlaplgofgklnaa.L
set_option maxHeartbeats 1000000
set_option linter.unusedSimpArgs false
set_option linter.unusedVariables false
set_option maxRecDepth 100000

def laws_eqAsmInsS.l1 : Nat → (List GAsmIns) → (List GAsmIns) → Int → Option ((Bool) ⊕ (Unit))
  | 0, _, _, _ => none
  | k + 1, a1, a2, a3 => cond ((decide (a3 < ((a1.length : Int))))) ((idx a1 a3).bind fun m1 => (idx a2 a3).bind fun m2 => (laws_eqAsmIns k m1 m2).bind fun t3 => cond ((!t3)) (some (.inl (false))) (laws_eqAsmInsS.l1 k a1 a2 ((IntKind.i64.wrap (a3 + 1))))) (some (.inr ()))

def laws_eqAsmInsS (k : Nat) (p0 : (List GAsmIns)) (p1 : (List GAsmIns)) : Option (Bool) :=
  cond ((((p0.length : Int)) != ((p1.length : Int)))) (some false) ((laws_eqAsmInsS.l1 k p0 p1 0).bind fun o1 => Sum.elim (fun o1l => some o1l) (fun o1r => some true) o1)

end Go.Proofs.Ytdlaplgofgklnaa
namespace Go.Proofs.Ytdlaplgofgklnaa
open Go.Proofs Go.Proofs.Ytdlaplgofgklnaa.L
set_option maxHeartbeats 1000000
set_option linter.unusedSimpArgs false
set_option linter.unusedVariables false
set_option maxRecDepth 100000

def laws_eqValSS.l1 : Nat → (List (List GI2)) → (List (List GI2)) → Int → Option ((Bool) ⊕ (Unit))
  | 0, _, _, _ => none
  | k + 1, a1, a2, a3 => cond ((decide (a3 < ((a1.length : Int))))) ((idx a1 a3).bind fun m1 => (idx a2 a3).bind fun m2 => (laws_eqValS k m1 m2).bind fun t3 => cond ((!t3)) (some (.inl (false))) (laws_eqValSS.l1 k a1 a2 ((IntKind.i64.wrap (a3 + 1))))) (some (.inr ()))

def laws_eqValSS (k : Nat) (p0 : (List (List GI2))) (p1 : (List (List GI2))) : Option (Bool) :=
  cond ((((p0.length : Int)) != ((p1.length : Int)))) (some false) ((laws_eqValSS.l1 k p0 p1 0).bind fun o1 => Sum.elim (fun o1l => some o1l) (fun o1r => some true) o1)

end Go.Proofs.Ytdlaplgofgklnaa
namespace Go.Proofs.Ytdlaplgofgklnaa
open Go.Proofs Go.Proofs.Ytdlaplgofgklnaa.L
set_option maxHeartbeats 1000000
set_option linter.unusedSimpArgs false
set_option linter.unusedVariables false
set_option maxRecDepth 100000

def laws_eqAsm (k : Nat) (p0 : GAsm) (p1 : GAsm) : Option (Bool) :=
  cond ((p0.func0 != p1.func0)) (some false) ((laws_eqAsmInsS k p0.code p1.code).bind fun t1 => cond ((!t1)) (some false) ((laws_eqValSS k p0.maps p1.maps).bind fun t2 => cond ((!t2)) (some false) (some true)))

end Go.Proofs.Ytdlaplgofgklnaa
namespace Go.Proofs.Ytdlaplgofgklnaa
open Go.Proofs Go.Proofs.Ytdlaplgofgklnaa.L
set_option maxHeartbeats 1000000
set_option linter.unusedSimpArgs false
set_option linter.unusedVariables false
set_option maxRecDepth 100000

def laws_eqAsmS.l1 : Nat → (List GAsm) → (List GAsm) → Int → Option ((Bool) ⊕ (Unit))
  | 0, _, _, _ => none
  | k + 1, a1, a2, a3 => cond ((decide (a3 < ((a1.length : Int))))) ((idx a1 a3).bind fun m1 => (idx a2 a3).bind fun m2 => (laws_eqAsm k m1 m2).bind fun t3 => cond ((!t3)) (some (.inl (false))) (laws_eqAsmS.l1 k a1 a2 ((IntKind.i64.wrap (a3 + 1))))) (some (.inr ()))

def laws_eqAsmS (k : Nat) (p0 : (List GAsm)) (p1 : (List GAsm)) : Option (Bool) :=
  cond ((((p0.length : Int)) != ((p1.length : Int)))) (some false) ((laws_eqAsmS.l1 k p0 p1 0).bind fun o1 => Sum.elim (fun o1l => some o1l) (fun o1r => some true) o1)

end Go.Proofs.Ytdlaplgofgklnaa
namespace Go.Proofs.Ytdlaplgofgklnaa
open Go.Proofs Go.Proofs.Ytdlaplgofgklnaa.L
set_option maxHeartbeats 1000000
set_option linter.unusedSimpArgs false
set_option linter.unusedVariables false
set_option maxRecDepth 100000

def laws_eqMixFrame (k : Nat) (p0 : GMixFrame) (p1 : GMixFrame) : Option (Bool) :=
  cond ((!(p0.asm == p1.asm))) (some false) (cond ((p0.func0 != p1.func0)) (some false) (cond ((p0.pc != p1.pc)) (some false) ((laws_eqInt64S k p0.locals p1.locals).bind fun t1 => cond ((!t1)) (some false) ((laws_eqInt64S k p0.stack p1.stack).bind fun t2 => cond ((!t2)) (some false) ((laws_eqInt64S k p0.locs p1.locs).bind fun t3 => cond ((!t3)) (some false) (some true))))))

end Go.Proofs.Ytdlaplgofgklnaa
namespace Go.Proofs.Ytdlaplgofgklnaa
open Go.Proofs Go.Proofs.Ytdlaplgofgklnaa.L
set_option maxHeartbeats 1000000
set_option linter.unusedSimpArgs false
set_option linter.unusedVariables false
set_option maxRecDepth 100000

def laws_eqMixFrameS.l1 : Nat → (List GMixFrame) → (List GMixFrame) → Int → Option ((Bool) ⊕ (Unit))
  | 0, _, _, _ => none
  | k + 1, a1, a2, a3 => cond ((decide (a3 < ((a1.length : Int))))) ((idx a1 a3).bind fun m1 => (idx a2 a3).bind fun m2 => (laws_eqMixFrame k m1 m2).bind fun t3 => cond ((!t3)) (some (.inl (false))) (laws_eqMixFrameS.l1 k a1 a2 ((IntKind.i64.wrap (a3 + 1))))) (some (.inr ()))

def laws_eqMixFrameS (k : Nat) (p0 : (List GMixFrame)) (p1 : (List GMixFrame)) : Option (Bool) :=
  cond ((((p0.length : Int)) != ((p1.length : Int)))) (some false) ((laws_eqMixFrameS.l1 k p0 p1 0).bind fun o1 => Sum.elim (fun o1l => some o1l) (fun o1r => some true) o1)

end Go.Proofs.Ytdlaplgofgklnaa
namespace Go.Proofs.Ytdlaplgofgklnaa
open Go.Proofs Go.Proofs.Ytdlaplgofgklnaa.L
set_option maxHeartbeats 1000000
set_option linter.unusedSimpArgs false
set_option linter.unusedVariables false
set_option maxRecDepth 100000

def laws_eqInt64SS.l1 : Nat → (List (List Int)) → (List (List Int)) → Int → Option ((Bool) ⊕ (Unit))
  | 0, _, _, _ => none
  | k + 1, a1, a2, a3 => cond ((decide (a3 < ((a1.length : Int))))) ((idx a1 a3).bind fun m1 => (idx a2 a3).bind fun m2 => (laws_eqInt64S k m1 m2).bind fun t3 => cond ((!t3)) (some (.inl (false))) (laws_eqInt64SS.l1 k a1 a2 ((IntKind.i64.wrap (a3 + 1))))) (some (.inr ()))

def laws_eqInt64SS (k : Nat) (p0 : (List (List Int))) (p1 : (List (List Int))) : Option (Bool) :=
  cond ((((p0.length : Int)) != ((p1.length : Int)))) (some false) ((laws_eqInt64SS.l1 k p0 p1 0).bind fun o1 => Sum.elim (fun o1l => some o1l) (fun o1r => some true) o1)

end Go.Proofs.Ytdlaplgofgklnaa
namespace Go.Proofs.Ytdlaplgofgklnaa
open Go.Proofs Go.Proofs.Ytdlaplgofgklnaa.L
set_option maxHeartbeats 1000000
set_option linter.unusedSimpArgs false
set_option linter.unusedVariables false
set_option maxRecDepth 100000

end Go.Proofs.Ytdlaplgofgklnaa
namespace Go.Proofs.Ytdlaplgofgklnaa
open Go.Proofs Go.Proofs.Ytdlaplgofgklnaa.L
set_option maxHeartbeats 1000000
set_option linter.unusedSimpArgs false
set_option linter.unusedVariables false
set_option maxRecDepth 100000

def laws_markMovS.l1 : Nat → (List GMov) → Int → Int → Option ((List GMov) × Int)
  | 0, _, _, _ => none
  | k + 1, a1, a2, a3 => cond ((decide (a3 < ((a1.length : Int))))) ((idx a1 a3).bind fun m1 => laws_markMovS.l1 k ((a1.set a3.toNat ((⟨a2, (⟨(IntKind.i64.wrap (a2 + 1)), (IntKind.i64.wrap (((IntKind.i64.wrap (a2 + 1))) + 1))⟩ : GI2)⟩ : GMov)))) ((IntKind.i64.wrap (((IntKind.i64.wrap (((IntKind.i64.wrap (a2 + 1))) + 1))) + 1))) ((IntKind.i64.wrap (a3 + 1)))) (some (a1, a2))

def laws_markMovS (k : Nat) (p0 : (List GMov)) (p1 : Int) : Option (Int × (List GMov)) :=
  (laws_markMovS.l1 k p0 p1 0).bind fun o1 => some (o1.2, o1.1)

end Go.Proofs.Ytdlaplgofgklnaa
namespace Go.Proofs.Ytdlaplgofgklnaa
open Go.Proofs Go.Proofs.Ytdlaplgofgklnaa.L
set_option maxHeartbeats 1000000
set_option linter.unusedSimpArgs false
set_option linter.unusedVariables false
set_option maxRecDepth 100000

def laws_markValS.l1 : Nat → (List GI2) → Int → Int → Option ((List GI2) × Int)
  | 0, _, _, _ => none
  | k + 1, a1, a2, a3 => cond ((decide (a3 < ((a1.length : Int))))) ((idx a1 a3).bind fun m1 => laws_markValS.l1 k ((a1.set a3.toNat ((⟨a2, (IntKind.i64.wrap (a2 + 1))⟩ : GI2)))) ((IntKind.i64.wrap (((IntKind.i64.wrap (a2 + 1))) + 1))) ((IntKind.i64.wrap (a3 + 1)))) (some (a1, a2))

def laws_markValS (k : Nat) (p0 : (List GI2)) (p1 : Int) : Option (Int × (List GI2)) :=
  (laws_markValS.l1 k p0 p1 0).bind fun o1 => some (o1.2, o1.1)

end Go.Proofs.Ytdlaplgofgklnaa
namespace Go.Proofs.Ytdlaplgofgklnaa
open Go.Proofs Go.Proofs.Ytdlaplgofgklnaa.L
set_option maxHeartbeats 1000000
set_option linter.unusedSimpArgs false
set_option linter.unusedVariables false
set_option maxRecDepth 100000

def laws_markAsmInsS.l1 : Nat → (List GAsmIns) → Int → Int → Option ((List GAsmIns) × Int)
  | 0, _, _, _ => none
  | k + 1, a1, a2, a3 => cond ((decide (a3 < ((a1.length : Int))))) ((idx a1 a3).bind fun m1 => (laws_markMovS k m1.pre a2).bind fun t2 => gd (t2.2.length = m1.pre.length) ((laws_markValS k m1.l ((IntKind.i64.wrap (((IntKind.i64.wrap (t2.1 + 1))) + 1)))).bind fun t3 => gd (t3.2.length = m1.l.length) (laws_markAsmInsS.l1 k ((a1.set a3.toNat (⟨t2.2, t2.1, (IntKind.i64.wrap (t2.1 + 1)), t3.2, t3.1⟩ : GAsmIns))) ((IntKind.i64.wrap (t3.1 + 1))) ((IntKind.i64.wrap (a3 + 1)))))) (some (a1, a2))

def laws_markAsmInsS (k : Nat) (p0 : (List GAsmIns)) (p1 : Int) : Option (Int × (List GAsmIns)) :=
  (laws_markAsmInsS.l1 k p0 p1 0).bind fun o1 => some (o1.2, o1.1)

end Go.Proofs.Ytdlaplgofgklnaa
namespace Go.Proofs.Ytdlaplgofgklnaa
open Go.Proofs Go.Proofs.Ytdlaplgofgklnaa.L
set_option maxHeartbeats 1000000
set_option linter.unusedSimpArgs false
set_option linter.unusedVariables false
set_option maxRecDepth 100000

def laws_markValSS.l1 : Nat → (List (List GI2)) → Int → Int → Option ((List (List GI2)) × Int)
  | 0, _, _, _ => none
  | k + 1, a1, a2, a3 => cond ((decide (a3 < ((a1.length : Int))))) ((idx a1 a3).bind fun m1 => (laws_markValS k m1 a2).bind fun t2 => gd (t2.2.length = m1.length) (laws_markValSS.l1 k ((a1.set a3.toNat t2.2)) t2.1 ((IntKind.i64.wrap (a3 + 1))))) (some (a1, a2))

def laws_markValSS (k : Nat) (p0 : (List (List GI2))) (p1 : Int) : Option (Int × (List (List GI2))) :=
  (laws_markValSS.l1 k p0 p1 0).bind fun o1 => some (o1.2, o1.1)

end Go.Proofs.Ytdlaplgofgklnaa
namespace Go.Proofs.Ytdlaplgofgklnaa
open Go.Proofs Go.Proofs.Ytdlaplgofgklnaa.L
set_option maxHeartbeats 1000000
set_option linter.unusedSimpArgs false
set_option linter.unusedVariables false
set_option maxRecDepth 100000

def laws_markAsmS.l1 : Nat → (List GAsm) → Int → Int → Option ((List GAsm) × Int)
  | 0, _, _, _ => none
  | k + 1, a1, a2, a3 => cond ((decide (a3 < ((a1.length : Int))))) ((idx a1 a3).bind fun m1 => (laws_markAsmInsS k m1.code ((IntKind.i64.wrap (a2 + 1)))).bind fun t2 => gd (t2.2.length = m1.code.length) ((laws_markValSS k m1.maps t2.1).bind fun t3 => gd (t3.2.length = m1.maps.length) (laws_markAsmS.l1 k ((((a1.set a3.toNat ((⟨a2, m1.code, m1.maps⟩ : GAsm)))).set a3.toNat (⟨a2, t2.2, t3.2⟩ : GAsm))) t3.1 ((IntKind.i64.wrap (a3 + 1)))))) (some (a1, a2))

def laws_markAsmS (k : Nat) (p0 : (List GAsm)) (p1 : Int) : Option (Int × (List GAsm)) :=
  (laws_markAsmS.l1 k p0 p1 0).bind fun o1 => some (o1.2, o1.1)

end Go.Proofs.Ytdlaplgofgklnaa
namespace Go.Proofs.Ytdlaplgofgklnaa
open Go.Proofs Go.Proofs.Ytdlaplgofgklnaa.L
set_option maxHeartbeats 1000000
set_option linter.unusedSimpArgs false
set_option linter.unusedVariables false
set_option maxRecDepth 100000

def laws_markMixFrameS.l1 : Nat → (List GMixFrame) → Int → Int → Option ((List GMixFrame) × Int)
  | 0, _, _, _ => none
  | k + 1, a1, a2, a3 => cond ((decide (a3 < ((a1.length : Int))))) ((idx a1 a3).bind fun m1 => (laws_markInt64S k m1.locals ((IntKind.i64.wrap (((IntKind.i64.wrap (((IntKind.i64.wrap (a2 + 1))) + 1))) + 1)))).bind fun t2 => gd (t2.2.length = m1.locals.length) ((laws_markInt64S k m1.stack t2.1).bind fun t3 => gd (t3.2.length = m1.stack.length) ((laws_markInt64S k m1.locs t3.1).bind fun t4 => gd (t4.2.length = m1.locs.length) (laws_markMixFrameS.l1 k ((((a1.set a3.toNat ((⟨(((a2.tmod 3)) == 0), (IntKind.i64.wrap (a2 + 1)), (IntKind.i64.wrap (((IntKind.i64.wrap (a2 + 1))) + 1)), m1.locals, m1.stack, m1.locs⟩ : GMixFrame)))).set a3.toNat (⟨(((a2.tmod 3)) == 0), (IntKind.i64.wrap (a2 + 1)), (IntKind.i64.wrap (((IntKind.i64.wrap (a2 + 1))) + 1)), t2.2, t3.2, t4.2⟩ : GMixFrame))) t4.1 ((IntKind.i64.wrap (a3 + 1))))))) (some (a1, a2))

def laws_markMixFrameS (k : Nat) (p0 : (List GMixFrame)) (p1 : Int) : Option (Int × (List GMixFrame)) :=
  (laws_markMixFrameS.l1 k p0 p1 0).bind fun o1 => some (o1.2, o1.1)

end Go.Proofs.Ytdlaplgofgklnaa
namespace Go.Proofs.Ytdlaplgofgklnaa
open Go.Proofs Go.Proofs.Ytdlaplgofgklnaa.L
set_option maxHeartbeats 1000000
set_option linter.unusedSimpArgs false
set_option linter.unusedVariables false
set_option maxRecDepth 100000

def laws_markInt64SS.l1 : Nat → (List (List Int)) → Int → Int → Option ((List (List Int)) × Int)
  | 0, _, _, _ => none
  | k + 1, a1, a2, a3 => cond ((decide (a3 < ((a1.length : Int))))) ((idx a1 a3).bind fun m1 => (laws_markInt64S k m1 a2).bind fun t2 => gd (t2.2.length = m1.length) (laws_markInt64SS.l1 k ((a1.set a3.toNat t2.2)) t2.1 ((IntKind.i64.wrap (a3 + 1))))) (some (a1, a2))

def laws_markInt64SS (k : Nat) (p0 : (List (List Int))) (p1 : Int) : Option (Int × (List (List Int))) :=
  (laws_markInt64SS.l1 k p0 p1 0).bind fun o1 => some (o1.2, o1.1)

end Go.Proofs.Ytdlaplgofgklnaa
namespace Go.Proofs.Ytdlaplgofgklnaa
open Go.Proofs Go.Proofs.Ytdlaplgofgklnaa.L
set_option maxHeartbeats 1000000
set_option linter.unusedSimpArgs false
set_option linter.unusedVariables false
set_option maxRecDepth 100000

end Go.Proofs.Ytdlaplgofgklnaa
namespace Go.Proofs.Ytdlaplgofgklnaa
open Go.Proofs Go.Proofs.Ytdlaplgofgklnaa.L
set_option maxHeartbeats 1000000
set_option linter.unusedSimpArgs false
set_option linter.unusedVariables false
set_option maxRecDepth 100000

def laws_heldMovS.l1 : Nat → (List GMov) → Int → Int → Option ((Int) ⊕ (Int))
  | 0, _, _, _ => none
  | k + 1, a1, a2, a3 => cond ((decide (a3 < ((a1.length : Int))))) ((idx a1 a3).bind fun m1 => cond ((m1.to != a2)) (some (.inl ((-1)))) (cond ((m1.from0.a != ((IntKind.i64.wrap (a2 + 1))))) (some (.inl ((-1)))) (cond ((m1.from0.b != ((IntKind.i64.wrap (((IntKind.i64.wrap (a2 + 1))) + 1))))) (some (.inl ((-1)))) (laws_heldMovS.l1 k a1 ((IntKind.i64.wrap (((IntKind.i64.wrap (((IntKind.i64.wrap (a2 + 1))) + 1))) + 1))) ((IntKind.i64.wrap (a3 + 1))))))) (some (.inr (a2)))

def laws_heldMovS (k : Nat) (p0 : (List GMov)) (p1 : Int) : Option (Int) :=
  (laws_heldMovS.l1 k p0 p1 0).bind fun o1 => Sum.elim (fun o1l => some o1l) (fun o1r => some o1r) o1

end Go.Proofs.Ytdlaplgofgklnaa
namespace Go.Proofs.Ytdlaplgofgklnaa
open Go.Proofs Go.Proofs.Ytdlaplgofgklnaa.L
set_option maxHeartbeats 1000000
set_option linter.unusedSimpArgs false
set_option linter.unusedVariables false
set_option maxRecDepth 100000

def laws_heldValS.l1 : Nat → (List GI2) → Int → Int → Option ((Int) ⊕ (Int))
  | 0, _, _, _ => none
  | k + 1, a1, a2, a3 => cond ((decide (a3 < ((a1.length : Int))))) ((idx a1 a3).bind fun m1 => cond ((m1.a != a2)) (some (.inl ((-1)))) (cond ((m1.b != ((IntKind.i64.wrap (a2 + 1))))) (some (.inl ((-1)))) (laws_heldValS.l1 k a1 ((IntKind.i64.wrap (((IntKind.i64.wrap (a2 + 1))) + 1))) ((IntKind.i64.wrap (a3 + 1)))))) (some (.inr (a2)))

def laws_heldValS (k : Nat) (p0 : (List GI2)) (p1 : Int) : Option (Int) :=
  (laws_heldValS.l1 k p0 p1 0).bind fun o1 => Sum.elim (fun o1l => some o1l) (fun o1r => some o1r) o1

end Go.Proofs.Ytdlaplgofgklnaa
namespace Go.Proofs.Ytdlaplgofgklnaa
open Go.Proofs Go.Proofs.Ytdlaplgofgklnaa.L
set_option maxHeartbeats 1000000
set_option linter.unusedSimpArgs false
set_option linter.unusedVariables false
set_option maxRecDepth 100000

def laws_heldAsmInsS.l1 : Nat → (List GAsmIns) → Int → Int → Option ((Int) ⊕ (Int))
  | 0, _, _, _ => none
  | k + 1, a1, a2, a3 => cond ((decide (a3 < ((a1.length : Int))))) ((idx a1 a3).bind fun m1 => (laws_heldMovS k m1.pre a2).bind fun t2 => cond ((decide (t2 < 0))) (some (.inl ((-1)))) (cond ((m1.op != t2)) (some (.inl ((-1)))) (cond ((m1.to != ((IntKind.i64.wrap (t2 + 1))))) (some (.inl ((-1)))) ((laws_heldValS k m1.l ((IntKind.i64.wrap (((IntKind.i64.wrap (t2 + 1))) + 1)))).bind fun t3 => cond ((decide (t3 < 0))) (some (.inl ((-1)))) (cond ((m1.t != t3)) (some (.inl ((-1)))) (laws_heldAsmInsS.l1 k a1 ((IntKind.i64.wrap (t3 + 1))) ((IntKind.i64.wrap (a3 + 1))))))))) (some (.inr (a2)))

def laws_heldAsmInsS (k : Nat) (p0 : (List GAsmIns)) (p1 : Int) : Option (Int) :=
  (laws_heldAsmInsS.l1 k p0 p1 0).bind fun o1 => Sum.elim (fun o1l => some o1l) (fun o1r => some o1r) o1

end Go.Proofs.Ytdlaplgofgklnaa
namespace Go.Proofs.Ytdlaplgofgklnaa
open Go.Proofs Go.Proofs.Ytdlaplgofgklnaa.L
set_option maxHeartbeats 1000000
set_option linter.unusedSimpArgs false
set_option linter.unusedVariables false
set_option maxRecDepth 100000

def laws_heldValSS.l1 : Nat → (List (List GI2)) → Int → Int → Option ((Int) ⊕ (Int))
  | 0, _, _, _ => none
  | k + 1, a1, a2, a3 => cond ((decide (a3 < ((a1.length : Int))))) ((idx a1 a3).bind fun m1 => (laws_heldValS k m1 a2).bind fun t2 => cond ((decide (t2 < 0))) (some (.inl ((-1)))) (laws_heldValSS.l1 k a1 t2 ((IntKind.i64.wrap (a3 + 1))))) (some (.inr (a2)))

def laws_heldValSS (k : Nat) (p0 : (List (List GI2))) (p1 : Int) : Option (Int) :=
  (laws_heldValSS.l1 k p0 p1 0).bind fun o1 => Sum.elim (fun o1l => some o1l) (fun o1r => some o1r) o1

end Go.Proofs.Ytdlaplgofgklnaa
namespace Go.Proofs.Ytdlaplgofgklnaa
open Go.Proofs Go.Proofs.Ytdlaplgofgklnaa.L
set_option maxHeartbeats 1000000
set_option linter.unusedSimpArgs false
set_option linter.unusedVariables false
set_option maxRecDepth 100000

def laws_heldAsmS.l1 : Nat → (List GAsm) → Int → Int → Option ((Int) ⊕ (Int))
  | 0, _, _, _ => none
  | k + 1, a1, a2, a3 => cond ((decide (a3 < ((a1.length : Int))))) ((idx a1 a3).bind fun m1 => cond ((m1.func0 != a2)) (some (.inl ((-1)))) ((laws_heldAsmInsS k m1.code ((IntKind.i64.wrap (a2 + 1)))).bind fun t2 => cond ((decide (t2 < 0))) (some (.inl ((-1)))) ((laws_heldValSS k m1.maps t2).bind fun t3 => cond ((decide (t3 < 0))) (some (.inl ((-1)))) (laws_heldAsmS.l1 k a1 t3 ((IntKind.i64.wrap (a3 + 1))))))) (some (.inr (a2)))

def laws_heldAsmS (k : Nat) (p0 : (List GAsm)) (p1 : Int) : Option (Int) :=
  (laws_heldAsmS.l1 k p0 p1 0).bind fun o1 => Sum.elim (fun o1l => some o1l) (fun o1r => some o1r) o1

end Go.Proofs.Ytdlaplgofgklnaa
namespace Go.Proofs.Ytdlaplgofgklnaa
open Go.Proofs Go.Proofs.Ytdlaplgofgklnaa.L
set_option maxHeartbeats 1000000
set_option linter.unusedSimpArgs false
set_option linter.unusedVariables false
set_option maxRecDepth 100000

def laws_heldMixFrameS.l1 : Nat → (List GMixFrame) → Int → Int → Option ((Int) ⊕ (Int))
  | 0, _, _, _ => none
  | k + 1, a1, a2, a3 => cond ((decide (a3 < ((a1.length : Int))))) ((idx a1 a3).bind fun m1 => cond ((!(m1.asm == ((((a2.tmod 3)) == 0))))) (some (.inl ((-1)))) (cond ((m1.func0 != ((IntKind.i64.wrap (a2 + 1))))) (some (.inl ((-1)))) (cond ((m1.pc != ((IntKind.i64.wrap (((IntKind.i64.wrap (a2 + 1))) + 1))))) (some (.inl ((-1)))) ((laws_heldInt64S k m1.locals ((IntKind.i64.wrap (((IntKind.i64.wrap (((IntKind.i64.wrap (a2 + 1))) + 1))) + 1)))).bind fun t2 => cond ((decide (t2 < 0))) (some (.inl ((-1)))) ((laws_heldInt64S k m1.stack t2).bind fun t3 => cond ((decide (t3 < 0))) (some (.inl ((-1)))) ((laws_heldInt64S k m1.locs t3).bind fun t4 => cond ((decide (t4 < 0))) (some (.inl ((-1)))) (laws_heldMixFrameS.l1 k a1 t4 ((IntKind.i64.wrap (a3 + 1)))))))))) (some (.inr (a2)))

def laws_heldMixFrameS (k : Nat) (p0 : (List GMixFrame)) (p1 : Int) : Option (Int) :=
  (laws_heldMixFrameS.l1 k p0 p1 0).bind fun o1 => Sum.elim (fun o1l => some o1l) (fun o1r => some o1r) o1

end Go.Proofs.Ytdlaplgofgklnaa
namespace Go.Proofs.Ytdlaplgofgklnaa
open Go.Proofs Go.Proofs.Ytdlaplgofgklnaa.L
set_option maxHeartbeats 1000000
set_option linter.unusedSimpArgs false
set_option linter.unusedVariables false
set_option maxRecDepth 100000

def laws_heldInt64SS.l1 : Nat → (List (List Int)) → Int → Int → Option ((Int) ⊕ (Int))
  | 0, _, _, _ => none
  | k + 1, a1, a2, a3 => cond ((decide (a3 < ((a1.length : Int))))) ((idx a1 a3).bind fun m1 => (laws_heldInt64S k m1 a2).bind fun t2 => cond ((decide (t2 < 0))) (some (.inl ((-1)))) (laws_heldInt64SS.l1 k a1 t2 ((IntKind.i64.wrap (a3 + 1))))) (some (.inr (a2)))

def laws_heldInt64SS (k : Nat) (p0 : (List (List Int))) (p1 : Int) : Option (Int) :=
  (laws_heldInt64SS.l1 k p0 p1 0).bind fun o1 => Sum.elim (fun o1l => some o1l) (fun o1r => some o1r) o1

end Go.Proofs.Ytdlaplgofgklnaa
namespace Go.Proofs.Ytdlaplgofgklnaa
open Go.Proofs Go.Proofs.Ytdlaplgofgklnaa.L
set_option maxHeartbeats 1000000
set_option linter.unusedSimpArgs false
set_option linter.unusedVariables false
set_option maxRecDepth 100000

end Go.Proofs.Ytdlaplgofgklnaa
namespace Go.Proofs.Ytdlaplgofgklnaa
open Go.Proofs Go.Proofs.Ytdlaplgofgklnaa.L
set_option linter.unusedVariables false
set_option linter.unusedSimpArgs false

/-- A list that is copied place by place. -/
theorem take_set_next {α : Type} {acc l : List α} {i : Nat} {m : α} (hl : acc.length = l.length) (h : acc.take i = l.take i) (hm : l[i]? = some m) : (acc.set i m).take (i + 1) = l.take (i + 1) := by
  have hi := (List.getElem?_eq_some_iff.1 hm).1
  rw [List.take_add_one, List.take_add_one, List.take_set_of_le (Nat.le_refl i), h, List.getElem?_set_self (by omega), hm]

theorem toInsS_l (l : List GI2) (hn : l.length < 4611686018427387904) : ∀ (d i : Nat) (acc : List GI2), l.length - i = d → i ≤ l.length → acc.length = l.length → acc.take i = l.take i →
    Ev (fun k => laws_toInsS.l1 k acc l (i : Int)) l := by
  intro d
  induction d with
  | zero =>
    intro i acc hd hi ha ht
    have : i = l.length := by omega
    subst this
    refine Ev.succ ?_
    simp only [laws_toInsS.l1]
    refine Ev.cf (df (by omega)) ?_
    rw [List.take_of_length_le (by omega), List.take_of_length_le (by omega)] at ht
    rw [ht]; exact Ev.pure
  | succ d ih =>
    intro i acc hd hi ha ht
    obtain ⟨m, hm⟩ := list_get (show i < l.length by omega)
    obtain ⟨m', hm'⟩ := list_get (show i < acc.length by omega)
    refine Ev.succ ?_
    simp only [laws_toInsS.l1, laws_toIns]
    refine Ev.ct (dt (by omega)) (Ev.idx hm (Ev.bind Ev.pure (Ev.idx hm' ?_)))
    rw [wrap_nat (by omega), Int.toNat_natCast]
    exact ih (i + 1) _ (by omega) (by omega) (by simpa using ha) (take_set_next ha ht hm)

theorem toInsS_ev {l : List GI2} (h : l.length * 16 ≤ 35184372088832) : Ev (fun k => laws_toInsS k l) l := by
  unfold laws_toInsS
  refine Ev.gd ⟨by omega, by omega, by omega⟩ (Ev.bind (toInsS_l l (by omega) _ 0 _ rfl (by omega) (by simp) (by simp)) Ev.pure)

theorem toFunc_ev {f : GFunc} (h : f.code.length * 16 ≤ 35184372088832) : Ev (fun k => laws_toFunc k f) f :=
  Ev.bind (toInsS_ev h) Ev.pure

theorem toFuncS_l (l : List GFunc) (hn : l.length < 4611686018427387904) (hc : ∀ f ∈ l, f.code.length * 16 ≤ 35184372088832) : ∀ (d i : Nat) (acc : List GFunc), l.length - i = d → i ≤ l.length → acc.length = l.length → acc.take i = l.take i →
    Ev (fun k => laws_toFuncS.l1 k acc l (i : Int)) l := by
  intro d
  induction d with
  | zero =>
    intro i acc hd hi ha ht
    have : i = l.length := by omega
    subst this
    refine Ev.succ ?_
    simp only [laws_toFuncS.l1]
    refine Ev.cf (df (by omega)) ?_
    rw [List.take_of_length_le (by omega), List.take_of_length_le (by omega)] at ht
    rw [ht]; exact Ev.pure
  | succ d ih =>
    intro i acc hd hi ha ht
    obtain ⟨m, hm⟩ := list_get (show i < l.length by omega)
    obtain ⟨m', hm'⟩ := list_get (show i < acc.length by omega)
    refine Ev.succ ?_
    simp only [laws_toFuncS.l1]
    refine Ev.ct (dt (by omega)) (Ev.idx hm (Ev.bind (toFunc_ev (hc m (List.mem_of_getElem? hm))) (Ev.idx hm' ?_)))
    rw [wrap_nat (by omega), Int.toNat_natCast]
    exact ih (i + 1) _ (by omega) (by omega) (by simpa using ha) (take_set_next ha ht hm)

/-- The sizes of a program that a law deals with. -/
structure Small (p : GProgram) : Prop where
  funcs : p.funcs.length ≤ 1048576
  code : ∀ f ∈ p.funcs, f.code.length ≤ 1048576

theorem toProgram_ev {p : GProgram} (h : Small p) : Ev (fun k => laws_toProgram k p) p := by
  have h1 := h.funcs
  refine Ev.bind (a := p.funcs) ?_ Ev.pure
  unfold laws_toFuncS
  refine Ev.gd ⟨by omega, by omega, by omega⟩ (Ev.bind (toFuncS_l p.funcs (by omega) (fun f hf => by have := h.code f hf; omega) _ 0 _ rfl (by omega) (by simp) (by simp)) Ev.pure)

/-! ### Sizes -/
theorem szInsS_ev (l : List GI2) (n : Int) (h0 : 0 ≤ n) (h1 : n ≤ 1048576) (h : l.length ≤ 9223372036854775807) : laws_szInsS l n = some (if n < l.length then -1 else n - l.length) := by
  unfold laws_szInsS
  rw [wrap_id (by omega) (by omega)]
  by_cases c : n < l.length
  · rw [dt (by omega), if_pos c]; rfl
  · rw [df (by omega), if_neg c]; rfl

theorem szFunc_ev (f : GFunc) (n : Int) (h0 : 0 ≤ n) (h1 : n ≤ 1048576) (h : f.code.length ≤ 9223372036854775807) : laws_szFunc f n = some (if n < f.code.length then -1 else n - f.code.length) := by
  unfold laws_szFunc
  rw [szInsS_ev _ _ h0 h1 h]
  show cond _ _ _ = _
  by_cases c : n < f.code.length
  · rw [if_pos c]; rfl
  · rw [if_neg c, df (by omega)]; rfl

theorem szFuncS_l (l : List GFunc) (hn : l.length ≤ 1048576) (hc : ∀ f ∈ l, f.code.length ≤ 9223372036854775807) : ∀ (d i : Nat) (n : Int), l.length - i = d → i ≤ l.length → 0 ≤ n → n ≤ 1048576 →
    ∃ r, Ev (fun k => laws_szFuncS.l1 k l n (i : Int)) r ∧ ((∃ x, r = .inl x ∧ x = -1) ∨ ∃ x, r = .inr x ∧ 0 ≤ x ∧ x ≤ n ∧ ∀ j f, i ≤ j → l[j]? = some f → f.code.length ≤ n) := by
  intro d
  induction d with
  | zero =>
    intro i n hd hi h0 h1
    refine ⟨.inr n, ?_, .inr ⟨n, rfl, h0, Int.le_refl _, fun j f hj hf => ?_⟩⟩
    · refine Ev.succ ?_
      simp only [laws_szFuncS.l1]
      exact Ev.cf (df (by omega)) Ev.pure
    · have := (List.getElem?_eq_some_iff.1 hf).1
      omega
  | succ d ih =>
    intro i n hd hi h0 h1
    obtain ⟨m, hm⟩ := list_get (show i < l.length by omega)
    by_cases c : n < m.code.length
    · refine ⟨.inl (-1), ?_, .inl ⟨_, rfl, rfl⟩⟩
      refine Ev.succ ?_
      simp only [laws_szFuncS.l1]
      refine Ev.ct (dt (by omega)) (Ev.idx hm ?_)
      simp only [szFunc_ev m n h0 h1 (hc m (List.mem_of_getElem? hm)), if_pos c, Option.bind_some]
      exact Ev.ct (dt (by omega)) Ev.pure
    · obtain ⟨r, hr, h⟩ := ih (i + 1) (n - m.code.length) (by omega) (by omega) (by omega) (by omega)
      refine ⟨r, ?_, ?_⟩
      · refine Ev.succ ?_
        simp only [laws_szFuncS.l1]
        refine Ev.ct (dt (by omega)) (Ev.idx hm ?_)
        simp only [szFunc_ev m n h0 h1 (hc m (List.mem_of_getElem? hm)), if_neg c, Option.bind_some]
        refine Ev.cf (df (by omega)) ?_
        rw [wrap_nat (by omega)]
        exact hr
      · rcases h with h | ⟨x, rfl, h2, h3, h4⟩
        · exact .inl h
        · refine .inr ⟨x, rfl, h2, by omega, fun j f hj hf => ?_⟩
          rcases Nat.lt_or_ge i j with hij | hij
          · have := h4 j f hij hf; omega
          · have : j = i := by omega
            subst this
            rw [hm] at hf
            cases hf
            omega

/-- A program is too large, or its sizes are small. -/
theorem szProgram_ev (p : GProgram) (hn : p.funcs.length ≤ 9223372036854775807) (hc : ∀ f ∈ p.funcs, f.code.length ≤ 9223372036854775807) :
    ∃ t, Ev (fun k => laws_szProgram k p 1048576) t ∧ (t < 0 ∨ (0 ≤ t ∧ Small p)) := by
  by_cases c : (1048576 : Int) < p.funcs.length
  · refine ⟨-1, ?_, .inl (by omega)⟩
    refine Ev.bind (a := -1) ?_ (Ev.ct (dt (by omega)) Ev.pure)
    unfold laws_szFuncS
    rw [wrap_id (by omega) (by omega)]
    exact Ev.ct (dt (by omega)) Ev.pure
  · obtain ⟨r, hr, h⟩ := szFuncS_l p.funcs (by omega) hc _ 0 (1048576 - p.funcs.length) rfl (by omega) (by omega) (by omega)
    have key : ∀ x, (r = .inl x ∨ r = .inr x) → Ev (fun k => laws_szFuncS k p.funcs 1048576) x := by
      intro x hx
      unfold laws_szFuncS
      rw [wrap_id (by omega) (by omega)]
      refine Ev.cf (df (by omega)) (Ev.bind hr ?_)
      rcases hx with rfl | rfl <;> exact Ev.pure
    rcases h with ⟨x, rfl, rfl⟩ | ⟨x, rfl, h1, h2, h3⟩
    · exact ⟨-1, Ev.bind (key _ (.inl rfl)) (Ev.ct (dt (by omega)) Ev.pure), .inl (by omega)⟩
    · refine ⟨x, Ev.bind (key _ (.inr rfl)) (Ev.cf (df (by omega)) Ev.pure), .inr ⟨h1, ⟨by omega, fun f hf => ?_⟩⟩⟩
      obtain ⟨j, hj⟩ := List.getElem?_of_mem hf
      have := h3 j f (by omega) hj
      omega

/-! ### The same -/
theorem eqIns_same (x : GI2) : laws_eqIns x x = some true := by simp [laws_eqIns]
theorem eqInsS_l (l : List GI2) (hn : l.length < 4611686018427387904) : ∀ (d i : Nat), l.length - i = d → i ≤ l.length → Ev (fun k => laws_eqInsS.l1 k l l (i : Int)) (.inr ()) := by
  intro d
  induction d with
  | zero =>
    intro i hd hi
    refine Ev.succ ?_
    simp only [laws_eqInsS.l1]
    exact Ev.cf (df (by omega)) Ev.pure
  | succ d ih =>
    intro i hd hi
    obtain ⟨m, hm⟩ := list_get (show i < l.length by omega)
    refine Ev.succ ?_
    simp only [laws_eqInsS.l1, eqIns_same]
    refine Ev.ct (dt (by omega)) (Ev.idx hm (Ev.idx hm (Ev.bind (eqIns_same m ▸ Ev.pure) (Ev.cf (by simp) ?_))))
    rw [wrap_nat (by omega)]
    exact ih (i + 1) (by omega) (by omega)
theorem eqInsS_ev (l : List GI2) (hn : l.length < 4611686018427387904) : Ev (fun k => laws_eqInsS k l l) true := by
  unfold laws_eqInsS
  refine Ev.cf (by simp) (Ev.bind (eqInsS_l l hn _ 0 rfl (by omega)) Ev.pure)
theorem eqFunc_ev (f : GFunc) (hn : f.code.length < 4611686018427387904) : Ev (fun k => laws_eqFunc k f f) true := by
  unfold laws_eqFunc
  refine Ev.cf (by simp) (Ev.cf (by simp) (Ev.bind (eqInsS_ev _ hn) (Ev.cf (by simp) Ev.pure)))
theorem eqFuncS_l (l : List GFunc) (hn : l.length < 4611686018427387904) (hc : ∀ f ∈ l, f.code.length < 4611686018427387904) : ∀ (d i : Nat), l.length - i = d → i ≤ l.length → Ev (fun k => laws_eqFuncS.l1 k l l (i : Int)) (.inr ()) := by
  intro d
  induction d with
  | zero =>
    intro i hd hi
    refine Ev.succ ?_
    simp only [laws_eqFuncS.l1]
    exact Ev.cf (df (by omega)) Ev.pure
  | succ d ih =>
    intro i hd hi
    obtain ⟨m, hm⟩ := list_get (show i < l.length by omega)
    refine Ev.succ ?_
    simp only [laws_eqFuncS.l1]
    refine Ev.ct (dt (by omega)) (Ev.idx hm (Ev.idx hm (Ev.bind (eqFunc_ev m (hc m (List.mem_of_getElem? hm))) (Ev.cf (by simp) ?_))))
    rw [wrap_nat (by omega)]
    exact ih (i + 1) (by omega) (by omega)
theorem eqProgram_ev {p : GProgram} (h : Small p) : Ev (fun k => laws_eqProgram k p p) true := by
  have h1 := h.funcs
  refine Ev.bind (a := true) ?_ (Ev.cf (by simp) Ev.pure)
  unfold laws_eqFuncS
  refine Ev.cf (by simp) (Ev.bind (eqFuncS_l p.funcs (by omega) (fun f hf => by have := h.code f hf; omega) _ 0 rfl (by omega)) Ev.pure)

/-! ### Marks -/
theorem markInsS_l : ∀ (d i : Nat) (l : List GI2) (n : Nat), l.length - i = d → i ≤ l.length → l.length ≤ 1048576 → n + 2 * d < 4611686018427387904 →
    ∃ l', Ev (fun k => laws_markInsS.l1 k l (n : Int) (i : Int)) (l', ((n + 2 * d : Nat) : Int)) ∧ l'.length = l.length := by
  intro d
  induction d with
  | zero =>
    intro i l n hd hi hl hn
    refine ⟨l, ?_, rfl⟩
    refine Ev.succ ?_
    simp only [laws_markInsS.l1]
    exact Ev.cf (df (by omega)) Ev.pure
  | succ d ih =>
    intro i l n hd hi hl hn
    obtain ⟨m, hm⟩ := list_get (show i < l.length by omega)
    obtain ⟨l', h1, h2⟩ := ih (i + 1) (l.set i ⟨n, ((n + 1 : Nat) : Int)⟩) (n + 2) (by simp; omega) (by simp; omega) (by simpa using hl) (by omega)
    refine ⟨l', ?_, by simpa using h2⟩
    refine Ev.succ ?_
    simp only [laws_markInsS.l1]
    refine Ev.ct (dt (by omega)) (Ev.idx hm ?_)
    rw [wrap_nat (show n < _ by omega), wrap_nat (show n + 1 < _ by omega), wrap_nat (show i < _ by omega), Int.toNat_natCast]
    rw [show n + 2 * (d + 1) = n + 2 + 2 * d by omega]
    exact h1
theorem markInsS_ev (l : List GI2) (n : Nat) (hl : l.length ≤ 1048576) (hn : n + 2 * l.length < 4611686018427387904) :
    ∃ l', Ev (fun k => laws_markInsS k l (n : Int)) (((n + 2 * l.length : Nat) : Int), l') ∧ l'.length = l.length := by
  obtain ⟨l', h1, h2⟩ := markInsS_l l.length 0 l n (by omega) (by omega) hl hn
  exact ⟨l', Ev.bind h1 Ev.pure, h2⟩

theorem markFuncS_l : ∀ (d i : Nat) (l : List GFunc) (n : Nat), l.length - i = d → i ≤ l.length → l.length ≤ 1048576 → (∀ j f, i ≤ j → l[j]? = some f → f.code.length ≤ 1048576) → n + 2097154 * d < 4611686018427387904 →
    ∃ l' n', Ev (fun k => laws_markFuncS.l1 k l (n : Int) (i : Int)) (l', ((n' : Nat) : Int)) ∧ l'.length = l.length ∧ n' ≤ n + 2097154 * d := by
  intro d
  induction d with
  | zero =>
    intro i l n hd hi hl hc hn
    refine ⟨l, n, ?_, rfl, by omega⟩
    refine Ev.succ ?_
    simp only [laws_markFuncS.l1]
    exact Ev.cf (df (by omega)) Ev.pure
  | succ d ih =>
    intro i l n hd hi hl hc hn
    obtain ⟨m, hm⟩ := list_get (show i < l.length by omega)
    have hmc := hc i m (Nat.le_refl _) hm
    obtain ⟨c, hc1, hc2⟩ := markInsS_ev m.code (n + 2) hmc (by omega)
    obtain ⟨l', n', h1, h2, h5⟩ := ih (i + 1) ((l.set i ⟨n, ((n + 1 : Nat) : Int), m.code⟩).set i ⟨n, ((n + 1 : Nat) : Int), c⟩) (n + 2 + 2 * m.code.length) (by simp; omega) (by simp; omega) (by simpa using hl)
      (fun j f hj hf => by
        rw [List.getElem?_set_ne (by omega), List.getElem?_set_ne (by omega)] at hf
        exact hc j f (by omega) hf) (by omega)
    refine ⟨l', n', ?_, by simpa using h2, by omega⟩
    refine Ev.succ ?_
    simp only [laws_markFuncS.l1]
    refine Ev.ct (dt (by omega)) (Ev.idx hm ?_)
    rw [wrap_nat (show n < _ by omega), wrap_nat (show n + 1 < _ by omega), wrap_nat (show i < _ by omega), Int.toNat_natCast]
    exact Ev.bind hc1 (Ev.gd hc2 h1)
theorem markProgram_b {p : GProgram} (h : Small p) : ∃ (l' : List GFunc) (n' : Nat), Ev (fun k => laws_markProgram k p 1) (((n' : Nat) : Int), l') ∧ l'.length = p.funcs.length ∧ n' ≤ 1 + 2097154 * p.funcs.length := by
  have h1 := h.funcs
  obtain ⟨l', n', h2, h3, h4⟩ := markFuncS_l p.funcs.length 0 p.funcs 1 (by omega) (by omega) h.funcs (fun j f _ hf => h.code f (List.mem_of_getElem? hf)) (by omega)
  refine ⟨l', n', ?_, h3, h4⟩
  exact Ev.bind (a := (((n' : Nat) : Int), l')) (Ev.bind h2 Ev.pure) (Ev.gd h3 Ev.pure)
theorem markProgram_ev {p : GProgram} (h : Small p) : ∃ (l' : List GFunc) (n' : Nat), Ev (fun k => laws_markProgram k p 1) (((n' : Nat) : Int), l') ∧ l'.length = p.funcs.length := by
  obtain ⟨l', n', h1, h2, -⟩ := markProgram_b h
  exact ⟨l', n', h1, h2⟩

end Go.Proofs.Ytdlaplgofgklnaa
namespace Go.Proofs.Ytdlaplgofgklnaa
open Go.Proofs Go.Proofs.Ytdlaplgofgklnaa.L
set_option linter.unusedVariables false
set_option linter.unusedSimpArgs false

def takesL (p : GProgram) (i : GI2) : Int :=
  if (10 ≤ i.a ∧ i.a ≤ 23) ∨ i.a = 35 then 2 else if i.a = 36 then 3 else if i.a = 32 then (if 0 ≤ i.b then match p.funcs[i.b.toNat]? with | some f => f.args | none => 0 else 0)
  else if 24 ≤ i.a ∧ i.a ≤ 29 then 1 else if i.a = 3 ∨ i.a = 4 ∨ i.a = 5 ∨ i.a = 31 ∨ i.a = 33 ∨ i.a = 34 ∨ i.a = 37 ∨ i.a = 38 then 1 else 0
def putsL (i : GI2) : Int :=
  if i.a = 4 then 2 else if i.a = 1 ∨ i.a = 2 ∨ i.a = 32 ∨ i.a = 34 ∨ i.a = 35 ∨ i.a = 37 ∨ (10 ≤ i.a ∧ i.a ≤ 29) then 1 else 0
def nextL (i : GI2) (x : Int) : List Int := if i.a = 33 then [] else if i.a = 30 then [i.b] else if i.a = 31 then [x + 1, i.b] else [x + 1]

theorem putsL_range (i : GI2) : 0 ≤ putsL i ∧ putsL i ≤ 2 := by unfold putsL; split <;> (try split) <;> omega

theorem op_cases (a : Int) : (a = 0 ∨ a = 1 ∨ a = 2 ∨ a = 3 ∨ a = 4 ∨ a = 5 ∨ a = 6 ∨ a = 7 ∨ a = 8 ∨ a = 9 ∨ a = 10 ∨ a = 11 ∨ a = 12 ∨ a = 13 ∨ a = 14 ∨ a = 15 ∨ a = 16 ∨ a = 17 ∨ a = 18 ∨ a = 19 ∨ a = 20 ∨ a = 21 ∨ a = 22 ∨ a = 23 ∨ a = 24 ∨ a = 25 ∨ a = 26 ∨ a = 27 ∨ a = 28 ∨ a = 29 ∨ a = 30 ∨ a = 31 ∨ a = 32 ∨ a = 33 ∨ a = 34 ∨ a = 35 ∨ a = 36 ∨ a = 37 ∨ a = 38) ∨ (a < 0 ∨ 38 < a) := by omega
theorem specTakes (k : Nat) (p : GProgram) (i : GI2) : spec_Takes k p i = some (takesL p i) := by
  obtain ⟨fs⟩ := p
  obtain ⟨a, b⟩ := i
  rcases op_cases a with (rfl | rfl | rfl | rfl | rfl | rfl | rfl | rfl | rfl | rfl | rfl | rfl | rfl | rfl | rfl | rfl | rfl | rfl | rfl | rfl | rfl | rfl | rfl | rfl | rfl | rfl | rfl | rfl | rfl | rfl | rfl | rfl | rfl | rfl | rfl | rfl | rfl | rfl | rfl) | h
  all_goals (try rfl)
  · unfold spec_Takes spec_Takes.a1 spec_Takes.a2 spec_l03Binary spec_l03Unary takesL
    by_cases hb : b < 0
    · simp [hb, show ¬ 0 ≤ b by omega]
    · by_cases hc : (fs.length : Int) ≤ b
      · have : fs[b.toNat]? = none := List.getElem?_eq_none (by omega)
        simp [hb, hc, show 0 ≤ b by omega, this]
      · obtain ⟨m, hm⟩ := list_get (show b.toNat < fs.length by omega)
        simp [hb, hc, show 0 ≤ b by omega, hm, idx_of]
  · have e : ∀ c : Int, 0 ≤ c → c ≤ 38 → (a == c) = false := by intro c h1 h2; simp; omega
    have e2 : ∀ c : Int, 0 ≤ c → c ≤ 38 → ¬ a = c := by intro c h1 h2; omega
    have r1 : ¬ (10 ≤ a ∧ a ≤ 23) := by omega
    have r2 : ¬ (24 ≤ a ∧ a ≤ 29) := by omega
    unfold spec_Takes spec_Takes.a1 spec_Takes.a2 spec_l03Binary spec_l03Unary takesL
    rcases h with h | h
    · simp [e, e2, show ¬ 10 ≤ a by omega, show ¬ 24 ≤ a by omega]
    · simp [e, e2, show 10 ≤ a by omega, show 24 ≤ a by omega, show ¬ a ≤ 23 by omega, show ¬ a ≤ 29 by omega]

theorem implTakes (k : Nat) (p : GProgram) (i : GI2) : impl_Takes k p i = some (takesL p i) := by
  obtain ⟨fs⟩ := p
  obtain ⟨a, b⟩ := i
  rcases op_cases a with (rfl | rfl | rfl | rfl | rfl | rfl | rfl | rfl | rfl | rfl | rfl | rfl | rfl | rfl | rfl | rfl | rfl | rfl | rfl | rfl | rfl | rfl | rfl | rfl | rfl | rfl | rfl | rfl | rfl | rfl | rfl | rfl | rfl | rfl | rfl | rfl | rfl | rfl | rfl) | h
  all_goals (try rfl)
  · unfold impl_Takes impl_Takes.a1 impl_Takes.a2 impl_isBinary impl_isUnary impl_hasFunc impl_in takesL
    by_cases hb : 0 ≤ b
    · by_cases hc : b < (fs.length : Int)
      · obtain ⟨m, hm⟩ := list_get (show b.toNat < fs.length by omega)
        simp [hb, hc, hm, idx_of]
      · have : fs[b.toNat]? = none := List.getElem?_eq_none (by omega)
        simp [hb, hc, this]
    · simp [hb]
  · have e : ∀ c : Int, 0 ≤ c → c ≤ 38 → (a == c) = false := by intro c h1 h2; simp; omega
    have e2 : ∀ c : Int, 0 ≤ c → c ≤ 38 → ¬ a = c := by intro c h1 h2; omega
    unfold impl_Takes impl_Takes.a1 impl_Takes.a2 impl_isBinary impl_isUnary impl_hasFunc impl_in takesL
    rcases h with h | h
    · simp [e, e2, show ¬ 10 ≤ a by omega, show ¬ 24 ≤ a by omega]
    · simp [e, e2, show 10 ≤ a by omega, show 24 ≤ a by omega, show ¬ a ≤ 23 by omega, show ¬ a ≤ 29 by omega]

theorem specPuts (k : Nat) (i : GI2) : spec_Puts k i = some (putsL i) := by
  obtain ⟨a, b⟩ := i
  rcases op_cases a with (rfl | rfl | rfl | rfl | rfl | rfl | rfl | rfl | rfl | rfl | rfl | rfl | rfl | rfl | rfl | rfl | rfl | rfl | rfl | rfl | rfl | rfl | rfl | rfl | rfl | rfl | rfl | rfl | rfl | rfl | rfl | rfl | rfl | rfl | rfl | rfl | rfl | rfl | rfl) | h
  all_goals (try rfl)
  have e : ∀ c : Int, 0 ≤ c → c ≤ 38 → (a == c) = false := by intro c h1 h2; simp; omega
  have e2 : ∀ c : Int, 0 ≤ c → c ≤ 38 → ¬ a = c := by intro c h1 h2; omega
  unfold spec_Puts spec_Puts.a1 spec_l03Binary spec_l03Unary putsL
  rcases h with h | h
  · simp [e, e2, show ¬ 10 ≤ a by omega, show ¬ 24 ≤ a by omega]
  · simp [e, e2, show 10 ≤ a by omega, show 24 ≤ a by omega, show ¬ a ≤ 23 by omega, show ¬ a ≤ 29 by omega]

theorem implPuts (i : GI2) : impl_Puts i = some (putsL i) := by
  obtain ⟨a, b⟩ := i
  rcases op_cases a with (rfl | rfl | rfl | rfl | rfl | rfl | rfl | rfl | rfl | rfl | rfl | rfl | rfl | rfl | rfl | rfl | rfl | rfl | rfl | rfl | rfl | rfl | rfl | rfl | rfl | rfl | rfl | rfl | rfl | rfl | rfl | rfl | rfl | rfl | rfl | rfl | rfl | rfl | rfl) | h
  all_goals (try rfl)
  have e : ∀ c : Int, 0 ≤ c → c ≤ 38 → (a == c) = false := by intro c h1 h2; simp; omega
  have e2 : ∀ c : Int, 0 ≤ c → c ≤ 38 → ¬ a = c := by intro c h1 h2; omega
  unfold impl_Puts impl_isArith impl_in putsL
  rcases h with h | h
  · simp [e, e2, show ¬ 10 ≤ a by omega]
  · simp [e, e2, show 10 ≤ a by omega, show ¬ a ≤ 29 by omega]

theorem implNext (i : GI2) (x : Nat) (h : x < 1000000) : impl_next i (x : Int) = some (nextL i x) := by
  unfold impl_next nextL
  rw [wrap_id (by omega) (by omega)]
  have e : ∀ c : Int, ¬ i.a = c → (i.a == c) = false := by intro c h1; simp; exact h1
  by_cases h1 : i.a = 33 <;> by_cases h2 : i.a = 30 <;> by_cases h3 : i.a = 31 <;> simp [h1, h2, h3, e]

theorem nextL_length (i : GI2) (x : Int) : (nextL i x).length ≤ 2 := by
  unfold nextL
  split <;> (try split) <;> (try split) <;> simp

/-! ### The clean machine -/
/-- The heights of the places to which one goes on. -/
def putN (len : Nat) (v : Int) : List Int → List Int → List Bool → Option (List Int × List Bool)
  | [], h, w => some (h, w)
  | n :: ns, h, w => if (len : Int) ≤ n then none else match h[n.toNat]? with
    | none => none
    | some x => if 0 ≤ x then (if x = v then putN len v ns h w else none) else putN len v ns (h.set n.toNat v) (w.set n.toNat true)

abbrev StepF := Nat → List Int → List Bool → Option (List Int × List Bool)
/-- .. in the program's way, and the reference's. -/
def stepI (p : GProgram) (code : List GI2) : StepF := fun x h w => match code[x]?, h[x]? with
  | some i, some y => if IntKind.i64.wrap (y - takesL p i) < 0 then none else if 8 < IntKind.i64.wrap (IntKind.i64.wrap (y - takesL p i) + putsL i) then none
      else putN code.length (IntKind.i64.wrap (IntKind.i64.wrap (y - takesL p i) + putsL i)) (nextL i x) h (w.set x false)
  | _, _ => none
def stepS (p : GProgram) (code : List GI2) : StepF := fun x h w => match code[x]?, h[x]? with
  | some i, some y => if y < takesL p i then none else if 8 < IntKind.i64.wrap (IntKind.i64.wrap (y - takesL p i) + putsL i) then none
      else putN code.length (IntKind.i64.wrap (IntKind.i64.wrap (y - takesL p i) + putsL i)) (nextL i x) h (w.set x false)
  | _, _ => none

/-- The least place that waits. -/
def Least (w : List Bool) (x : Nat) : Prop := w[x]? = some true ∧ ∀ j, j < x → w[j]? ≠ some true

inductive HRun (st : StepF) : List Int → List Bool → Option (List Int) → Prop
  | done {h : List Int} {w : List Bool} : (∀ j : Nat, w[j]? ≠ some true) → HRun st h w (some h)
  | bad {h : List Int} {w : List Bool} {x : Nat} : Least w x → st x h w = none → HRun st h w none
  | go {h h' : List Int} {w w' : List Bool} {x : Nat} {r : Option (List Int)} : Least w x → st x h w = some (h', w') → HRun st h' w' r → HRun st h w r

theorem least_or (w : List Bool) : (∀ j : Nat, w[j]? ≠ some true) ∨ ∃ x, Least w x := by
  by_cases h : ∃ j : Nat, w[j]? = some true
  · right
    obtain ⟨j, hj⟩ := h
    induction j using Nat.strongRecOn with
    | _ j ih =>
      by_cases c : ∃ i, i < j ∧ w[i]? = some true
      · obtain ⟨i, hi, hw⟩ := c
        exact ih i hi hw
      · exact ⟨j, hj, fun i hi hw => c ⟨i, hi, hw⟩⟩
  · left
    intro j hj
    exact h ⟨j, hj⟩

end Go.Proofs.Ytdlaplgofgklnaa
namespace Go.Proofs.Ytdlaplgofgklnaa
open Go.Proofs Go.Proofs.Ytdlaplgofgklnaa.L
set_option linter.unusedVariables false
set_option linter.unusedSimpArgs false

theorem wrap64_eq (x : Int) : IntKind.i64.wrap x = if x % 18446744073709551616 ≥ 9223372036854775808 then x % 18446744073709551616 - 18446744073709551616 else x % 18446744073709551616 := by
  simp [IntKind.wrap, IntKind.bits, IntKind.signed]

/-- What is still to come: a place that has no height, or waits. -/
def cw (N j : Nat) (x : Int) (b : Bool) : Nat := (if x < 0 then 3 * N else 0) + (if b then (if x < 0 then N - j else 3 * N) else 0)
def mz (N : Nat) : Nat → List Int → List Bool → Nat
  | j, x :: h, b :: w => cw N j x b + mz N (j + 1) h w
  | _, _, _ => 0
theorem mz_set (N : Nat) : ∀ (j : Nat) (h : List Int) (w : List Bool) (i : Nat) (x : Int) (b : Bool) (x' : Int) (b' : Bool), h[i]? = some x → w[i]? = some b → mz N j (h.set i x') (w.set i b') + cw N (j + i) x b = mz N j h w + cw N (j + i) x' b'
  | j, [], w, i, x, b, x', b', h1, h2 => by simp at h1
  | j, y :: h, [], i, x, b, x', b', h1, h2 => by simp at h2
  | j, y :: h, c :: w, 0, x, b, x', b', h1, h2 => by
    simp at h1 h2
    subst h1 h2
    simp only [List.set_cons_zero, mz, Nat.add_zero]
    omega
  | j, y :: h, c :: w, i + 1, x, b, x', b', h1, h2 => by
    simp only [List.getElem?_cons_succ] at h1 h2
    simp only [List.set_cons_succ, mz]
    have := mz_set N (j + 1) h w i x b x' b' h1 h2
    rw [show j + 1 + i = j + (i + 1) by omega] at this
    omega
theorem set_same {α : Type} {l : List α} {i : Nat} {x : α} (h : l[i]? = some x) : l.set i x = l := by
  apply List.ext_getElem?
  intro j
  by_cases e : i = j
  · subst e
    rw [List.getElem?_set_self (List.getElem?_eq_some_iff.1 h).1, h]
  · rw [List.getElem?_set_ne e]
theorem mz_setw {N : Nat} {h : List Int} {w : List Bool} {i : Nat} {x : Int} {b : Bool} (b' : Bool) (h1 : h[i]? = some x) (h2 : w[i]? = some b) : mz N 0 h (w.set i b') + cw N i x b = mz N 0 h w + cw N i x b' := by
  have := mz_set N 0 h w i x b x b' h1 h2
  rw [Nat.zero_add] at this
  rwa [set_same h1] at this

/-- What a height may be: the numbers of some set; what waits is in a smaller one. -/
structure HInv (A : Int → Prop) (W : Int → Prop) (h : List Int) (w : List Bool) : Prop where
  len : h.length = w.length
  all : ∀ (j : Nat) (x : Int), h[j]? = some x → A x
  wt : ∀ (j : Nat) (x : Int), h[j]? = some x → w[j]? = some true → W x

theorem HInv.drop {A W : Int → Prop} {h : List Int} {w : List Bool} (i : HInv A W h w) (x : Nat) : HInv A W h (w.set x false) := by
  refine ⟨by simpa using i.len, i.all, fun j y h1 h2 => ?_⟩
  by_cases e : x = j
  · subst e
    rw [List.getElem?_set_self (by have := (List.getElem?_eq_some_iff.1 h1).1; have := i.len; omega)] at h2
    cases h2
  · rw [List.getElem?_set_ne e] at h2
    exact i.wt j y h1 h2

theorem HInv.put {A W : Int → Prop} {h : List Int} {w : List Bool} (i : HInv A W h w) (x : Nat) {v : Int} (hA : A v) (hW : W v) : HInv A W (h.set x v) (w.set x true) := by
  refine ⟨by simpa using i.len, fun j y h1 => ?_, fun j y h1 h2 => ?_⟩
  · by_cases e : x = j
    · subst e
      by_cases hx : x < h.length
      · rw [List.getElem?_set_self hx] at h1; cases h1; exact hA
      · rw [List.getElem?_eq_none (by simp; omega)] at h1; cases h1
    · rw [List.getElem?_set_ne e] at h1; exact i.all j y h1
  · by_cases e : x = j
    · subst e
      by_cases hx : x < h.length
      · rw [List.getElem?_set_self hx] at h1; cases h1; exact hW
      · rw [List.getElem?_eq_none (by simp; omega)] at h1; cases h1
    · rw [List.getElem?_set_ne e] at h1 h2; exact i.wt j y h1 h2

def more (N : Nat) : List Int → Nat
  | [] => 0
  | n :: ns => (N - n.toNat) + more N ns
theorem putN_inv {A W : Int → Prop} {len : Nat} {v : Int} (N : Nat) (hA : A v) (hW : W v) : ∀ (ns : List Int) (h : List Int) (w : List Bool) (h' : List Int) (w' : List Bool), HInv A W h w → putN len v ns h w = some (h', w') →
    HInv A W h' w' ∧ h'.length = h.length ∧ mz N 0 h' w' ≤ mz N 0 h w + (if v < 0 then more N ns else 0)
  | [], h, w, h', w', hi, hp => by
    simp only [putN, Option.some.injEq, Prod.mk.injEq] at hp
    obtain ⟨rfl, rfl⟩ := hp
    exact ⟨hi, rfl, by simp⟩
  | n :: ns, h, w, h', w', hi, hp => by
    simp only [putN] at hp
    split at hp
    · cases hp
    split at hp
    · cases hp
    rename_i x hx
    split at hp
    · split at hp
      · obtain ⟨h1, h2, h3⟩ := putN_inv N hA hW ns h w h' w' hi hp
        refine ⟨h1, h2, ?_⟩
        simp only [more]
        split at h3 <;> simp_all <;> omega
      · cases hp
    · rename_i hneg
      obtain ⟨h1, h2, h3⟩ := putN_inv N hA hW ns _ _ h' w' (hi.put n.toNat hA hW) hp
      obtain ⟨b, hb⟩ := list_get (show n.toNat < w.length by have := (List.getElem?_eq_some_iff.1 hx).1; have := hi.len; omega)
      have hm := mz_set N 0 h w n.toNat x b v true hx hb
      rw [Nat.zero_add] at hm
      refine ⟨h1, by simpa using h2, ?_⟩
      have c1 : 3 * N ≤ cw N n.toNat x b := by unfold cw; rw [if_pos (by omega)]; omega
      have c2 : cw N n.toNat v true ≤ 3 * N + (if v < 0 then N - n.toNat else 0) := by unfold cw; split <;> simp
      simp only [more]
      split at h3
      · rename_i c; rw [if_pos c] at c2; rw [if_pos c]; omega
      · rename_i c; rw [if_neg c] at c2; rw [if_neg c]; omega

/-- A step keeps what heights may be, and something falls. -/
def Good (len : Nat) (A W : Int → Prop) (st : StepF) : Prop := ∀ (x : Nat) (h : List Int) (w : List Bool) (h' : List Int) (w' : List Bool), h.length = len → HInv A W h w → w[x]? = some true → st x h w = some (h', w') →
  HInv A W h' w' ∧ h'.length = h.length ∧ mz (len + 1) 0 h' w' < mz (len + 1) 0 h w

theorem run_ex {len : Nat} {A W : Int → Prop} {st : StepF} (g : Good len A W st) : ∀ (n : Nat) (h : List Int) (w : List Bool), mz (len + 1) 0 h w = n → h.length = len → HInv A W h w → ∃ r, HRun st h w r := by
  intro n
  induction n using Nat.strongRecOn with
  | _ n ih =>
    intro h w hn hl hi
    rcases least_or w with hd | ⟨x, hx⟩
    · exact ⟨_, .done hd⟩
    · cases hs : st x h w with
      | none => exact ⟨_, .bad hx hs⟩
      | some q =>
        obtain ⟨h', w'⟩ := q
        obtain ⟨h1, h2, h3⟩ := g x h w h' w' hl hi hx.1 hs
        obtain ⟨r, hr⟩ := ih _ (hn ▸ h3) h' w' rfl (h2.trans hl) h1
        exact ⟨r, .go hx hs hr⟩

theorem step_fall {A W : Int → Prop} {len : Nat} {v y : Int} {ns h h' : List Int} {w w' : List Bool} {x : Nat} (hl : h.length = len) (hi : HInv A W h w) (hA : A v) (hW : W v) (hy : h[x]? = some y) (hw : w[x]? = some true) (hns : ns.length ≤ 2)
    (hv : y < 0 → 0 ≤ v ∨ ns = [(x : Int) + 1])
    (hp : putN len v ns h (w.set x false) = some (h', w')) : HInv A W h' w' ∧ h'.length = h.length ∧ mz (len + 1) 0 h' w' < mz (len + 1) 0 h w := by
  obtain ⟨h1, h2, h3⟩ := putN_inv (len + 1) hA hW ns h _ h' w' (hi.drop x) hp
  have hx := (List.getElem?_eq_some_iff.1 hy).1
  have hm := mz_setw (N := len + 1) false hy hw
  refine ⟨h1, h2, ?_⟩
  have c1 : cw (len + 1) x y true = cw (len + 1) x y false + (if y < 0 then len + 1 - x else 3 * (len + 1)) := by unfold cw; simp
  have c3 : more (len + 1) ns ≤ 2 * (len + 1) := by
    match ns, hns with
    | [], _ => simp [more]
    | [a], _ => simp only [more]; omega
    | [a, b], _ => simp only [more]; omega
  by_cases c : y < 0
  · rw [if_pos c] at c1
    rcases hv c with h0 | h0
    · rw [if_neg (by omega)] at h3
      omega
    · subst h0
      have : more (len + 1) [(x : Int) + 1] = len + 1 - (x + 1) := by simp only [more]; omega
      rw [this] at h3
      split at h3 <;> omega
  · rw [if_neg c] at c1
    split at h3 <;> omega

abbrev A1 (x : Int) : Prop := -1 ≤ x ∧ x ≤ 8
abbrev W1 (x : Int) : Prop := 0 ≤ x ∧ x ≤ 8
abbrev A2 (x : Int) : Prop := (-1 ≤ x ∧ x ≤ 8) ∨ (-9223372036854775808 ≤ x ∧ x ≤ -9223372036854775788)
abbrev W2 (x : Int) : Prop := (0 ≤ x ∧ x ≤ 8) ∨ (-9223372036854775808 ≤ x ∧ x ≤ -9223372036854775788)

def Args64 (p : GProgram) : Prop := ∀ f ∈ p.funcs, -9223372036854775808 ≤ f.args ∧ f.args ≤ 9223372036854775807
theorem takes64 {p : GProgram} (h : Args64 p) (i : GI2) : -9223372036854775808 ≤ takesL p i ∧ takesL p i ≤ 9223372036854775807 := by
  unfold takesL
  split
  · omega
  split
  · omega
  split
  · split
    · split
      · rename_i f hf
        exact h f (List.mem_of_getElem? hf)
      · omega
    · omega
  split
  · omega
  split <;> omega

theorem puts_next {i : GI2} {x : Int} (h : 0 < putsL i) : nextL i x = [x + 1] := by
  unfold putsL at h
  unfold nextL
  split at h
  · rw [if_neg (by omega), if_neg (by omega), if_neg (by omega)]
  · split at h
    · rw [if_neg (by omega), if_neg (by omega), if_neg (by omega)]
    · omega

theorem goodI (p : GProgram) (code : List GI2) (hp : Args64 p) : Good code.length A2 W2 (stepI p code) := by
  intro x h w h' w' hl hi hw hs
  unfold stepI at hs
  split at hs
  · rename_i i y hi' hy
    split at hs
    · cases hs
    split at hs
    · cases hs
    rename_i c1 c2
    have hW := hi.wt x y hy hw
    have hpu := putsL_range i
    have e1 : 0 ≤ IntKind.i64.wrap (y - takesL p i) := by omega
    have e2 : IntKind.i64.wrap (y - takesL p i) ≤ 9223372036854775807 := by rw [wrap64_eq]; split <;> omega
    generalize IntKind.i64.wrap (y - takesL p i) = q at *
    have hv : W2 (IntKind.i64.wrap (q + putsL i)) ∧ (0 ≤ IntKind.i64.wrap (q + putsL i) ∨ 0 < putsL i) := by
      by_cases c : q + putsL i ≤ 9223372036854775807
      · rw [wrap_id (by omega) c] at c2 ⊢
        exact ⟨.inl ⟨by omega, by omega⟩, .inl (by omega)⟩
      · have : IntKind.i64.wrap (q + putsL i) = q + putsL i - 18446744073709551616 := by rw [wrap64_eq]; split <;> omega
        rw [this]
        exact ⟨.inr ⟨by omega, by omega⟩, .inr (by omega)⟩
    refine step_fall hl hi ?_ hv.1 hy hw (nextL_length _ _) (fun hh => ?_) hs
    · have := hv.1; rcases this with h1 | h1
      · exact .inl ⟨by omega, h1.2⟩
      · exact .inr h1
    · rcases hv.2 with h1 | h1
      · exact .inl h1
      · exact .inr (puts_next h1)
  · cases hs

theorem goodS (p : GProgram) (code : List GI2) (hp : Args64 p) : Good code.length A2 W2 (stepS p code) := by
  intro x h w h' w' hl hi hw hs
  unfold stepS at hs
  split at hs
  · rename_i i y hi' hy
    split at hs
    · cases hs
    split at hs
    · cases hs
    rename_i c1 c2
    have hW := hi.wt x y hy hw
    have hpu := putsL_range i
    have ht := takes64 hp i
    have hv : W2 (IntKind.i64.wrap (IntKind.i64.wrap (y - takesL p i) + putsL i)) ∧ (y < 0 → 0 ≤ IntKind.i64.wrap (IntKind.i64.wrap (y - takesL p i) + putsL i)) := by
      by_cases c : y - takesL p i ≤ 9223372036854775807
      · rw [wrap_id (x := y - takesL p i) (by omega) c] at c2 ⊢
        by_cases d : y - takesL p i + putsL i ≤ 9223372036854775807
        · rw [wrap_id (by omega) d] at c2 ⊢
          exact ⟨.inl ⟨by omega, by omega⟩, fun _ => by omega⟩
        · have : IntKind.i64.wrap (y - takesL p i + putsL i) = y - takesL p i + putsL i - 18446744073709551616 := by rw [wrap64_eq]; split <;> omega
          rw [this]
          exact ⟨.inr ⟨by omega, by omega⟩, fun _ => by omega⟩
      · have : IntKind.i64.wrap (y - takesL p i) = y - takesL p i - 18446744073709551616 := by rw [wrap64_eq]; split <;> omega
        rw [this, wrap_id (by omega) (by omega)]
        exact ⟨.inr ⟨by omega, by omega⟩, fun _ => by omega⟩
    refine step_fall hl hi ?_ hv.1 hy hw (nextL_length _ _) (fun hh => .inl (hv.2 hh)) hs
    have := hv.1; rcases this with h1 | h1
    · exact .inl ⟨by omega, h1.2⟩
    · exact .inr h1
  · cases hs

/-! ### Where nothing is taken that is out of bounds -/
def Normal (p : GProgram) : Prop := ∀ f ∈ p.funcs, 0 ≤ f.args ∧ f.args ≤ 4
theorem takesN {p : GProgram} (h : Normal p) (i : GI2) : 0 ≤ takesL p i ∧ takesL p i ≤ 4 := by
  unfold takesL
  split
  · omega
  split
  · omega
  split
  · split
    · split
      · rename_i f hf
        exact h f (List.mem_of_getElem? hf)
      · omega
    · omega
  split
  · omega
  split <;> omega

/-- A step, in plain numbers. -/
def stepN (p : GProgram) (code : List GI2) : StepF := fun x h w => match code[x]?, h[x]? with
  | some i, some y => if y < takesL p i then none else if 8 < y - takesL p i + putsL i then none
      else putN code.length (y - takesL p i + putsL i) (nextL i x) h (w.set x false)
  | _, _ => none

theorem stepI_N {p : GProgram} (hp : Normal p) {code : List GI2} {x : Nat} {h : List Int} {w : List Bool} (hi : HInv A1 W1 h w) (hw : w[x]? = some true) : stepI p code x h w = stepN p code x h w := by
  unfold stepI stepN
  cases hi' : code[x]? with
  | none => rfl
  | some i =>
    cases hy : h[x]? with
    | none => rfl
    | some y =>
      have hW := hi.wt x y hy hw
      have ht := takesN hp i
      have hpu := putsL_range i
      simp only []
      rw [wrap_id (x := y - takesL p i) (by omega) (by omega), wrap_id (by omega) (by omega)]
      by_cases c : y < takesL p i
      · rw [if_pos (by omega), if_pos c]
      · rw [if_neg (by omega), if_neg c]
theorem stepS_N {p : GProgram} (hp : Normal p) {code : List GI2} {x : Nat} {h : List Int} {w : List Bool} (hi : HInv A1 W1 h w) (hw : w[x]? = some true) : stepS p code x h w = stepN p code x h w := by
  unfold stepS stepN
  cases hi' : code[x]? with
  | none => rfl
  | some i =>
    cases hy : h[x]? with
    | none => rfl
    | some y =>
      have hW := hi.wt x y hy hw
      have ht := takesN hp i
      have hpu := putsL_range i
      simp only []
      rw [wrap_id (x := y - takesL p i) (by omega) (by omega), wrap_id (by omega) (by omega)]
theorem stepN_inv {p : GProgram} (hp : Normal p) {code : List GI2} {x : Nat} {h h' : List Int} {w w' : List Bool} (hi : HInv A1 W1 h w) (hw : w[x]? = some true) (hs : stepN p code x h w = some (h', w')) : HInv A1 W1 h' w' ∧ h'.length = h.length := by
  unfold stepN at hs
  split at hs
  · rename_i i y hi' hy
    split at hs
    · cases hs
    split at hs
    · cases hs
    have hpu := putsL_range i
    obtain ⟨h1, h2, -⟩ := putN_inv 0 (A := A1) (W := W1) ⟨by omega, by omega⟩ ⟨by omega, by omega⟩ _ _ _ _ _ (hi.drop x) hs
    exact ⟨h1, h2⟩
  · cases hs

theorem run_N {p : GProgram} (hp : Normal p) {code : List GI2} {st : StepF} (he : ∀ (x : Nat) (h : List Int) (w : List Bool), HInv A1 W1 h w → w[x]? = some true → st x h w = stepN p code x h w) {h : List Int} {w : List Bool} {r : Option (List Int)}
    (hr : HRun st h w r) (hi : HInv A1 W1 h w) : HRun (stepN p code) h w r := by
  induction hr with
  | done h1 => exact .done h1
  | bad h1 h2 => exact .bad h1 ((he _ _ _ hi h1.1).symm.trans h2)
  | go h1 h2 _ ih =>
    have h3 := (he _ _ _ hi h1.1).symm.trans h2
    exact .go h1 h3 (ih (stepN_inv hp hi h1.1 h3).1)

theorem least_same {w : List Bool} {x y : Nat} (h1 : Least w x) (h2 : Least w y) : x = y := by
  rcases Nat.lt_trichotomy x y with h | h | h
  · exact absurd h1.1 (h2.2 x h)
  · exact h
  · exact absurd h2.1 (h1.2 y h)

theorem run_same {st : StepF} {h : List Int} {w : List Bool} {r s : Option (List Int)} (hr : HRun st h w r) (hs : HRun st h w s) : r = s := by
  induction hr generalizing s with
  | done h1 =>
    cases hs with
    | done => rfl
    | bad h2 _ => exact absurd h2.1 (h1 _)
    | go h2 _ _ => exact absurd h2.1 (h1 _)
  | bad h1 h2 =>
    cases hs with
    | done h3 => exact absurd h1.1 (h3 _)
    | bad => rfl
    | go h3 h4 _ =>
      rw [least_same h1 h3, h4] at h2; cases h2
  | go h1 h2 _ ih =>
    cases hs with
    | done h3 => exact absurd h1.1 (h3 _)
    | bad h3 h4 => rw [least_same h1 h3, h4] at h2; cases h2
    | go h3 h4 h5 =>
      rw [least_same h1 h3, h4] at h2
      cases h2
      exact ih h5

end Go.Proofs.Ytdlaplgofgklnaa
namespace Go.Proofs.Ytdlaplgofgklnaa
open Go.Proofs Go.Proofs.Ytdlaplgofgklnaa.L
set_option linter.unusedVariables false
set_option linter.unusedSimpArgs false

theorem Ev.idxI {α β : Type} {l : List α} {i : Int} {m : α} {g : Nat → α → Option β} {v : β} (h0 : 0 ≤ i) (h : l[i.toNat]? = some m) (h2 : Ev (fun k => g k m) v) : Ev (fun k => (L.idx l i).bind (g k)) v := by
  refine Ev.bind (a := m) (Ev.const ?_) h2
  rw [idx_of h0, h]
theorem at_mid {α : Type} (pre : List α) (n : α) (ns : List α) : (pre ++ n :: ns)[pre.length]? = some n := by simp

theorem specLeast_l (w : List Bool) (hn : w.length < 1099511627776) : ∀ (d i : Nat), w.length - i = d → i ≤ w.length → (∀ j : Nat, j < i → w[j]? ≠ some true) →
    (∃ x, Least w x ∧ Ev (fun k => spec_l04Least.l1 k w (i : Int)) (.inl (x : Int))) ∨ ((∀ j : Nat, w[j]? ≠ some true) ∧ Ev (fun k => spec_l04Least.l1 k w (i : Int)) (.inr ())) := by
  intro d
  induction d with
  | zero =>
    intro i hd hi hj
    right
    refine ⟨fun j => ?_, ?_⟩
    · rcases Nat.lt_or_ge j i with h | h
      · exact hj j h
      · rw [List.getElem?_eq_none (by omega)]; simp
    · refine Ev.succ ?_
      simp only [spec_l04Least.l1]
      exact Ev.cf (df (by omega)) Ev.pure
  | succ d ih =>
    intro i hd hi hj
    obtain ⟨b, hb⟩ := list_get (show i < w.length by omega)
    cases b with
    | true =>
      left
      refine ⟨i, ⟨hb, hj⟩, ?_⟩
      refine Ev.succ ?_
      simp only [spec_l04Least.l1]
      exact Ev.ct (dt (by omega)) (Ev.idx hb (Ev.ct rfl Ev.pure))
    | false =>
      have step : ∀ o, Ev (fun k => spec_l04Least.l1 k w ((i + 1 : Nat) : Int)) o → Ev (fun k => spec_l04Least.l1 k w (i : Int)) o := by
        intro o ho
        refine Ev.succ ?_
        simp only [spec_l04Least.l1]
        refine Ev.ct (dt (by omega)) (Ev.idx hb (Ev.cf rfl ?_))
        rw [wrap_nat (by omega)]
        exact ho
      rcases ih (i + 1) (by omega) (by omega) (fun j hji => by
        by_cases e : j = i
        · subst e; rw [hb]; simp
        · exact hj j (by omega)) with ⟨x, h1, h2⟩ | ⟨h1, h2⟩
      · exact .inl ⟨x, h1, step _ h2⟩
      · exact .inr ⟨h1, step _ h2⟩

theorem specLeast_some {w : List Bool} (hn : w.length < 1099511627776) {x : Nat} (h : Least w x) : Ev (fun k => spec_l04Least k w) (x : Int) := by
  rcases specLeast_l w hn _ 0 rfl (by omega) (fun j hj => by omega) with ⟨y, h1, h2⟩ | ⟨h1, h2⟩
  · rw [least_same h h1]
    exact Ev.bind h2 Ev.pure
  · exact absurd h.1 (h1 x)
theorem specLeast_none {w : List Bool} (hn : w.length < 1099511627776) (h : ∀ j : Nat, w[j]? ≠ some true) : Ev (fun k => spec_l04Least k w) (-1) := by
  rcases specLeast_l w hn _ 0 rfl (by omega) (fun j hj => by omega) with ⟨y, h1, h2⟩ | ⟨h1, h2⟩
  · exact absurd h1.1 (h y)
  · exact Ev.bind h2 Ev.pure

theorem specPut (fs : List GFunc) (z : GI3) (f : Int) (code : List GI2) (bad : GI3) (v : Int) (hbad : bad.c ≠ 0) (hlen : code.length < 1099511627776) :
    ∀ (ns pre : List Int) (h : List Int) (w : List Bool), (∀ n ∈ ns, 0 ≤ n) → h.length = code.length → w.length = code.length → (pre ++ ns).length < 1099511627776 →
    ∃ o, Ev (fun k => spec_l04Heights.l6 k fs z h w bad (pre ++ ns) f code v (pre.length : Int)) o ∧
      match putN code.length v ns h w with
      | some (h', w') => o = .inr (fs, z, h', w', f, code)
      | none => ∃ hh e, o = .inl (hh, e) ∧ e.c ≠ 0
  | [], pre, h, w, hns, hh, hw, hp => by
    refine ⟨.inr (fs, z, h, w, f, code), ?_, rfl⟩
    refine Ev.succ ?_
    simp only [spec_l04Heights.l6, List.append_nil]
    exact Ev.cf (df (by omega)) Ev.pure
  | n :: ns, pre, h, w, hns, hh, hw, hp => by
    have hn0 := hns n (by simp)
    have hmid := at_mid pre n ns
    have hl : (pre.length : Int) < ((pre ++ n :: ns).length : Int) := by simp; omega
    by_cases c : (code.length : Int) ≤ n
    · refine ⟨.inl (h, ⟨bad.a, bad.b, 6⟩), ?_, ?_⟩
      · refine Ev.succ ?_
        simp only [spec_l04Heights.l6]
        exact Ev.ct (dt hl) (Ev.idx hmid (Ev.ct (dt c) Ev.pure))
      · simp only [putN, if_pos c]
        exact ⟨_, _, rfl, by simp⟩
    · obtain ⟨x, hx⟩ := list_get (show n.toNat < h.length by omega)
      obtain ⟨b, hb⟩ := list_get (show n.toNat < w.length by omega)
      have ha7 : Ev (fun k => spec_l04Heights.a7 k fs z h w bad (pre ++ n :: ns) f code v (pre.length : Int)) (if 0 ≤ x ∧ x ≠ v then .inl (h, bad) else .inr (fs, z, h, w, bad, pre ++ n :: ns, f, code, v, (pre.length : Int))) := by
        unfold spec_l04Heights.a7
        refine Ev.idx hmid (Ev.idxI hn0 hx ?_)
        by_cases c1 : 0 ≤ x
        · refine Ev.ct (dt c1) ?_
          by_cases c2 : x = v
          · rw [if_neg (by omega)]
            exact Ev.cf (by simp [c2]) Ev.pure
          · rw [if_pos ⟨c1, c2⟩]
            exact Ev.ct (by simp [c2]) Ev.pure
        · rw [if_neg (by omega)]
          exact Ev.cf (df c1) Ev.pure
      have pre' : pre ++ n :: ns = (pre ++ [n]) ++ ns := by simp
      have plen : ((pre.length + 1 : Nat) : Int) = ((pre ++ [n]).length : Int) := by simp
      by_cases c1 : 0 ≤ x
      · by_cases c2 : x = v
        · obtain ⟨o, ho, hm⟩ := specPut fs z f code bad v hbad hlen ns (pre ++ [n]) h w (fun m hm => hns m (by simp [hm])) hh hw (by rw [← pre']; exact hp)
          refine ⟨o, ?_, ?_⟩
          · refine Ev.succ ?_
            simp only [spec_l04Heights.l6]
            refine Ev.ct (dt hl) (Ev.idx hmid (Ev.cf (df (by omega)) (Ev.bind ha7 ?_)))
            rw [if_neg (by omega)]
            simp only [Sum.elim_inr]
            refine Ev.idx hmid (Ev.idxI hn0 hx (Ev.cf (df (by omega)) ?_))
            rw [wrap_nat (by simp at hp; omega), plen, pre']
            exact ho
          · simp only [putN, if_neg c, hx, if_pos c1, if_pos c2]
            exact hm
        · refine ⟨.inl (h, bad), ?_, ?_⟩
          · refine Ev.succ ?_
            simp only [spec_l04Heights.l6]
            refine Ev.ct (dt hl) (Ev.idx hmid (Ev.cf (df (by omega)) (Ev.bind ha7 ?_)))
            rw [if_pos ⟨c1, c2⟩]
            exact Ev.pure
          · simp only [putN, if_neg c, hx, if_pos c1, if_neg c2]
            exact ⟨_, _, rfl, hbad⟩
      · obtain ⟨o, ho, hm⟩ := specPut fs z f code bad v hbad hlen ns (pre ++ [n]) (h.set n.toNat v) (w.set n.toNat true) (fun m hm => hns m (by simp [hm])) (by simpa using hh) (by simpa using hw) (by rw [← pre']; exact hp)
        refine ⟨o, ?_, ?_⟩
        · refine Ev.succ ?_
          simp only [spec_l04Heights.l6]
          refine Ev.ct (dt hl) (Ev.idx hmid (Ev.cf (df (by omega)) (Ev.bind ha7 ?_)))
          rw [if_neg (by omega)]
          simp only [Sum.elim_inr]
          refine Ev.idx hmid (Ev.idxI hn0 hx (Ev.ct (dt (by omega)) (Ev.idxI hn0 hb ?_)))
          rw [wrap_nat (by simp at hp; omega), plen, pre']
          exact ho
        · simp only [putN, if_neg c, hx, if_neg c1]
          exact hm

/-- Where a jump goes there is a place. -/
def JumpsOk (code : List GI2) : Prop := ∀ i ∈ code, (i.a = 30 ∨ i.a = 31) → 0 ≤ i.b ∧ i.b < (code.length : Int)
theorem nextL_pos {code : List GI2} (hj : JumpsOk code) {i : GI2} (hi : i ∈ code) (x : Nat) : ∀ n ∈ nextL i (x : Int), 0 ≤ n := by
  intro n hn
  unfold nextL at hn
  split at hn
  · cases hn
  split at hn
  · simp at hn; subst hn; exact (hj i hi (.inl ‹_›)).1
  split at hn
  · simp at hn
    rcases hn with rfl | rfl
    · omega
    · exact (hj i hi (.inr ‹_›)).1
  · simp at hn; omega

/-- What an answer tells of a run's end. -/
def SpecRes (code : List GI2) (o : List Int × GI3) : Option (List Int) → Prop
  | some hf => o = (hf, ⟨0, 0, 0⟩) ∧ hf.length = code.length
  | none => o.2.c ≠ 0
theorem specRun (p : GProgram) (f : Int) (code : List GI2) (z : GI3) (hj : JumpsOk code) (hlen : code.length < 1099511627) {h : List Int} {w : List Bool} {r : Option (List Int)} (hr : HRun (stepS p code) h w r) :
    h.length = code.length → w.length = code.length → ∃ o, Ev (fun k => spec_l04Heights.l2 k p.funcs z h w f code) o ∧ SpecRes code o r := by
  -- what a round does
  have round : ∀ (h : List Int) (w : List Bool) (x : Nat), h.length = code.length → w.length = code.length → Least w x →
      match stepS p code x h w with
      | none => ∃ o, Ev (fun k => spec_l04Heights.l2 k p.funcs z h w f code) o ∧ o.2.c ≠ 0
      | some (h', w') => ∀ o, Ev (fun k => spec_l04Heights.l2 k p.funcs z h' w' f code) o → Ev (fun k => spec_l04Heights.l2 k p.funcs z h w f code) o := by
    intro h w x hh hw hx
    have hxw := (List.getElem?_eq_some_iff.1 hx.1).1
    obtain ⟨i, hi⟩ := list_get (show x < code.length by omega)
    obtain ⟨y, hy⟩ := list_get (show x < h.length by omega)
    have him := List.mem_of_getElem? hi
    have hp : (⟨p.funcs⟩ : GProgram) = p := rfl
    -- the part ahead of the places
    have ha3 : Ev (fun k => spec_l04Heights.a3 k p.funcs z h (w.set x false) i ⟨f, x, 5⟩ f code (x : Int) (takesL p i) (IntKind.i64.wrap (IntKind.i64.wrap (y - takesL p i) + putsL i)))
        (if y < takesL p i ∨ 8 < IntKind.i64.wrap (IntKind.i64.wrap (y - takesL p i) + putsL i) then .inl (h, ⟨f, x, 5⟩) else .inr (p.funcs, z, h, w.set x false, i, ⟨f, x, 5⟩, f, code, (x : Int), IntKind.i64.wrap (IntKind.i64.wrap (y - takesL p i) + putsL i))) := by
      unfold spec_l04Heights.a3
      refine Ev.idx hy ?_
      by_cases c1 : y < takesL p i
      · rw [if_pos (.inl c1)]; exact Ev.ct (dt c1) Ev.pure
      · refine Ev.cf (df c1) ?_
        by_cases c2 : 8 < IntKind.i64.wrap (IntKind.i64.wrap (y - takesL p i) + putsL i)
        · rw [if_pos (.inr c2)]; exact Ev.ct (dt c2) Ev.pure
        · rw [if_neg (by omega)]; exact Ev.cf (df c2) Ev.pure
    unfold stepS
    simp only [hi, hy]
    by_cases c1 : y < takesL p i
    · rw [if_pos c1]
      refine ⟨(h, ⟨f, x, 5⟩), ?_, by simp⟩
      refine Ev.succ ?_
      simp only [spec_l04Heights.l2, specTakes, specPuts, Option.bind_some, hp]
      refine Ev.bind (specLeast_some (by omega) hx) (Ev.cf (df (by omega)) (Ev.idx hx.1 (Ev.idx hi ?_)))
      simp only [specTakes, specPuts, Option.bind_some, Int.toNat_natCast]
      refine Ev.idx hy (Ev.bind ha3 ?_)
      rw [if_pos (.inl c1)]
      exact Ev.pure
    · rw [if_neg c1]
      by_cases c2 : 8 < IntKind.i64.wrap (IntKind.i64.wrap (y - takesL p i) + putsL i)
      · rw [if_pos c2]
        refine ⟨(h, ⟨f, x, 5⟩), ?_, by simp⟩
        refine Ev.succ ?_
        simp only [spec_l04Heights.l2]
        refine Ev.bind (specLeast_some (by omega) hx) (Ev.cf (df (by omega)) (Ev.idx hx.1 (Ev.idx hi ?_)))
        simp only [specTakes, specPuts, Option.bind_some, Int.toNat_natCast]
        refine Ev.idx hy (Ev.bind ha3 ?_)
        rw [if_pos (.inr c2)]
        exact Ev.pure
      · rw [if_neg c2]
        generalize hv : IntKind.i64.wrap (IntKind.i64.wrap (y - takesL p i) + putsL i) = v at *
        have ha4 : Ev (fun k => spec_l04Heights.a4 k p.funcs z h (w.set x false) i ⟨f, x, 5⟩ [] f code (x : Int) v) (p.funcs, z, h, w.set x false, i, ⟨f, x, 5⟩, f, code, v, if i.a ≠ 30 ∧ i.a ≠ 33 then [(x : Int) + 1] else []) := by
          unfold spec_l04Heights.a4
          by_cases d1 : i.a = 30
          · rw [if_neg (by omega)]; exact Ev.cf (by simp [d1]) Ev.pure
          · refine Ev.ct (by simp [d1]) ?_
            by_cases d2 : i.a = 33
            · rw [if_neg (by omega)]; exact Ev.cf (by simp [d2]) Ev.pure
            · rw [if_pos ⟨d1, d2⟩]
              refine Ev.ct (by simp [d2]) (Ev.gd ⟨by simp, by simp⟩ ?_)
              rw [wrap_nat (by omega)]
              exact Ev.pure
        have ha5 : Ev (fun k => spec_l04Heights.a5 k p.funcs z h (w.set x false) i ⟨f, x, 5⟩ (if i.a ≠ 30 ∧ i.a ≠ 33 then [(x : Int) + 1] else []) f code v) (p.funcs, z, h, w.set x false, ⟨f, x, 5⟩, f, code, v, nextL i x) := by
          unfold spec_l04Heights.a5 nextL
          by_cases d1 : i.a = 30
          · refine Ev.ct (by simp [d1]) ?_
            simp only [d1]
            exact Ev.gd ⟨by simp, by simp⟩ Ev.pure
          · refine Ev.cf (by simp [d1]) ?_
            by_cases d2 : i.a = 31
            · refine Ev.ct (by simp [d2]) ?_
              simp only [d2]
              exact Ev.gd ⟨by simp, by simp⟩ Ev.pure
            · refine Ev.cf (by simp [d2]) ?_
              by_cases d3 : i.a = 33
              · simp only [d3]; exact Ev.pure
              · rw [if_pos ⟨d1, d3⟩, if_neg d3, if_neg d1, if_neg d2]; exact Ev.pure
        obtain ⟨o, ho, hm⟩ := specPut p.funcs z f code ⟨f, x, 5⟩ v (by simp) (by omega) (nextL i x) [] h (w.set x false) (nextL_pos hj him x) hh (by simpa using hw) (by have := nextL_length i x; simp; omega)
        have go : ∀ o', (Ev (fun k => (Sum.elim (fun o6l => some (o6l.1, o6l.2)) (fun o6r => spec_l04Heights.l2 k o6r.1 o6r.2.1 o6r.2.2.1 o6r.2.2.2.1 o6r.2.2.2.2.1 o6r.2.2.2.2.2) o : Option (List Int × GI3))) o') → Ev (fun k => spec_l04Heights.l2 k p.funcs z h w f code) o' := by
          intro o' h'
          refine Ev.succ ?_
          simp only [spec_l04Heights.l2]
          refine Ev.bind (specLeast_some (by omega) hx) (Ev.cf (df (by omega)) (Ev.idx hx.1 (Ev.idx hi ?_)))
          simp only [specTakes, specPuts, Option.bind_some, Int.toNat_natCast]
          refine Ev.idx hy ?_
          rw [hv]
          refine Ev.bind ha3 ?_
          rw [if_neg (by omega)]
          simp only [Sum.elim_inr]
          exact Ev.bind ha4 (Ev.bind ha5 (Ev.bind ho h'))
        cases hput : putN code.length v (nextL i x) h (w.set x false) with
        | none =>
          rw [hput] at hm
          obtain ⟨hh', e, rfl, he⟩ := hm
          exact ⟨(hh', e), go _ Ev.pure, he⟩
        | some q =>
          obtain ⟨h', w'⟩ := q
          rw [hput] at hm
          subst hm
          exact fun o ho => go o ho
  induction hr with
  | done h1 =>
    intro hh hw
    refine ⟨_, ?_, rfl, hh⟩
    refine Ev.succ ?_
    simp only [spec_l04Heights.l2]
    exact Ev.bind (specLeast_none (by omega) h1) (Ev.ct (dt (by omega)) Ev.pure)
  | bad h1 h2 =>
    intro hh hw
    have := round _ _ _ hh hw h1
    rw [h2] at this
    exact this
  | @go h h' w w' x r h1 h2 h3 ih =>
    intro hh hw
    have hr := round _ _ _ hh hw h1
    rw [h2] at hr
    have hl : h'.length = code.length ∧ w'.length = code.length := by
      unfold stepS at h2
      split at h2
      · split at h2
        · cases h2
        split at h2
        · cases h2
        obtain ⟨i1, i2, -⟩ := putN_inv 0 (A := fun _ => True) (W := fun _ => True) trivial trivial _ _ _ _ _ (show HInv (fun _ => True) (fun _ => True) h (w.set x false) from ⟨by simp; omega, fun _ _ _ => trivial, fun _ _ _ _ => trivial⟩) h2
        exact ⟨by omega, by have := i1.len; omega⟩
      · cases h2
    obtain ⟨o, ho, hm⟩ := ih hl.1 hl.2
    exact ⟨o, hr o ho, hm⟩

end Go.Proofs.Ytdlaplgofgklnaa
namespace Go.Proofs.Ytdlaplgofgklnaa
open Go.Proofs Go.Proofs.Ytdlaplgofgklnaa.L
set_option linter.unusedVariables false
set_option linter.unusedSimpArgs false

/-- What a round's end tells. -/
def PutRes (fs : List GFunc) (code : List GI2) (L : Nat) (w : List Bool) (o : (List Int × Int × Int) ⊕ (List GFunc × List Int × List Bool × List GI2 × Int)) : Option (List Int × List Bool) → Prop
  | some (h', w') => ∃ L' : Nat, o = .inr (fs, h', w', code, (L' : Int)) ∧ L' ≤ L ∧ ((∀ j : Nat, j < L → w[j]? ≠ some true) → ∀ j : Nat, j < L' → w'[j]? ≠ some true)
  | none => ∃ e, o = .inl e ∧ e.2.2 ≠ 0

theorem implPut (fs : List GFunc) (code : List GI2) (i : GI2) (x : Int) (left v : Int) (hv : IntKind.i64.wrap (left + putsL i) = v) (hlen : code.length < 1099511627776) :
    ∀ (ns pre : List Int) (h : List Int) (w : List Bool) (L : Nat), (∀ n ∈ ns, 0 ≤ n ∧ n ≤ (code.length : Int)) → h.length = code.length → w.length = code.length → (pre ++ ns).length < 1099511627776 →
    ∃ o, Ev (fun k => impl_heightsOf.l4 k fs h w i (pre ++ ns) code x left (L : Int) ((pre ++ ns).length : Int) (pre.length : Int)) o ∧ PutRes fs code L w o (putN code.length v ns h w)
  | [], pre, h, w, L, hns, hh, hw, hp => by
    refine ⟨.inr (fs, h, w, code, (L : Int)), ?_, L, rfl, Nat.le_refl _, fun g => g⟩
    refine Ev.succ ?_
    simp only [impl_heightsOf.l4, List.append_nil]
    exact Ev.cf (df (by omega)) Ev.pure
  | n :: ns, pre, h, w, L, hns, hh, hw, hp => by
    obtain ⟨hn0, hn1⟩ := hns n (by simp)
    have hmid := at_mid pre n ns
    have hl : (pre.length : Int) < ((pre ++ n :: ns).length : Int) := by simp; omega
    by_cases c : (code.length : Int) ≤ n
    · refine ⟨.inl (h, x, 6), ?_, ?_⟩
      · refine Ev.succ ?_
        simp only [impl_heightsOf.l4]
        exact Ev.ct (dt hl) (Ev.idx hmid (Ev.ct (by simp; omega) Ev.pure))
      · simp only [putN, if_pos c]
        exact ⟨_, rfl, by simp⟩
    · obtain ⟨y, hy⟩ := list_get (show n.toNat < h.length by omega)
      obtain ⟨b, hb⟩ := list_get (show n.toNat < w.length by omega)
      have ha5 : Ev (fun k => impl_heightsOf.a5 k fs h w i (pre ++ n :: ns) code x left (L : Int) n ((pre ++ n :: ns).length : Int) (pre.length : Int))
          (if 0 ≤ y ∧ y ≠ v then .inl (h, x, 5) else .inr (fs, h, w, i, pre ++ n :: ns, code, x, left, (L : Int), n, ((pre ++ n :: ns).length : Int), (pre.length : Int))) := by
        unfold impl_heightsOf.a5
        refine Ev.idxI hn0 hy ?_
        by_cases c1 : 0 ≤ y
        · refine Ev.ct (dt c1) (Ev.bind (Ev.const (implPuts i)) ?_)
          rw [hv]
          by_cases c2 : y = v
          · rw [if_neg (by omega)]
            exact Ev.cf (by simp [c2]) Ev.pure
          · rw [if_pos ⟨c1, c2⟩]
            exact Ev.ct (by simp [c2]) Ev.pure
        · rw [if_neg (by omega)]
          exact Ev.cf (df c1) Ev.pure
      have pre' : pre ++ n :: ns = (pre ++ [n]) ++ ns := by simp
      have plen : ((pre.length + 1 : Nat) : Int) = ((pre ++ [n]).length : Int) := by simp
      by_cases c1 : 0 ≤ y
      · by_cases c2 : y = v
        · obtain ⟨o, ho, hm⟩ := implPut fs code i x left v hv hlen ns (pre ++ [n]) h w L (fun m hm => hns m (by simp [hm])) hh hw (by rw [← pre']; exact hp)
          refine ⟨o, ?_, ?_⟩
          · refine Ev.succ ?_
            simp only [impl_heightsOf.l4]
            refine Ev.ct (dt hl) (Ev.idx hmid (Ev.cf (by simp; omega) (Ev.bind ha5 ?_)))
            rw [if_neg (by omega)]
            simp only [Sum.elim_inr]
            refine Ev.idxI hn0 hy (Ev.cf (df (by omega)) ?_)
            rw [wrap_nat (by simp at hp; omega), plen, pre']
            exact ho
          · simp only [putN, if_neg c, hy, if_pos c1, if_pos c2]
            exact hm
        · refine ⟨.inl (h, x, 5), ?_, ?_⟩
          · refine Ev.succ ?_
            simp only [impl_heightsOf.l4]
            refine Ev.ct (dt hl) (Ev.idx hmid (Ev.cf (by simp; omega) (Ev.bind ha5 ?_)))
            rw [if_pos ⟨c1, c2⟩]
            exact Ev.pure
          · simp only [putN, if_neg c, hy, if_pos c1, if_neg c2]
            exact ⟨_, rfl, by simp⟩
      · obtain ⟨o, ho, hm⟩ := implPut fs code i x left v hv hlen ns (pre ++ [n]) (h.set n.toNat v) (w.set n.toNat true) (min n.toNat L) (fun m hm => hns m (by simp [hm])) (by simpa using hh) (by simpa using hw) (by rw [← pre']; exact hp)
        refine ⟨o, ?_, ?_⟩
        · refine Ev.succ ?_
          simp only [impl_heightsOf.l4]
          refine Ev.ct (dt hl) (Ev.idx hmid (Ev.cf (by simp; omega) (Ev.bind ha5 ?_)))
          rw [if_neg (by omega)]
          simp only [Sum.elim_inr]
          refine Ev.idxI hn0 hy (Ev.ct (dt (by omega)) (Ev.bind (Ev.const (implPuts i)) (Ev.idxI hn0 hb ?_)))
          rw [hv, wrap_nat (by simp at hp; omega), plen, pre']
          have : (if decide (n < (L : Int)) = true then n else (L : Int)) = ((min n.toNat L : Nat) : Int) := by
            by_cases d : n < (L : Int)
            · rw [if_pos (by simpa using d)]; omega
            · rw [if_neg (by simpa using d)]; omega
          rw [this]
          exact ho
        · simp only [putN, if_neg c, hy, if_neg c1]
          revert hm
          cases putN code.length v ns (h.set n.toNat v) (w.set n.toNat true) with
          | none => exact fun hm => hm
          | some q =>
            rintro ⟨L', h1, h2, h3⟩
            refine ⟨L', h1, by omega, fun g => h3 fun j hj => ?_⟩
            rw [List.getElem?_set_ne (by omega)]
            exact g j (by omega)

/-- What an answer tells of a run's end. -/
def ImplRes (code : List GI2) (o : (List Int × Int × Int) ⊕ List Int) : Option (List Int) → Prop
  | some hf => o = .inr hf ∧ hf.length = code.length
  | none => ∃ e, o = .inl e ∧ e.2.2 ≠ 0

theorem implSkip (p : GProgram) (code : List GI2) (hlen : code.length < 1099511627) (h : List Int) (w : List Bool) (hw : w.length = code.length) (o : (List Int × Int × Int) ⊕ List Int) : ∀ (d x y : Nat), y - x = d → x ≤ y → y ≤ code.length → (∀ j : Nat, x ≤ j → j < y → w[j]? ≠ some true) →
    Ev (fun k => impl_heightsOf.l2 k p.funcs h w code (y : Int)) o → Ev (fun k => impl_heightsOf.l2 k p.funcs h w code (x : Int)) o := by
  intro d
  induction d with
  | zero =>
    intro x y hd hxy hy hj ho
    have : x = y := by omega
    subst this
    exact ho
  | succ d ih =>
    intro x y hd hxy hy hj ho
    have h1 := ih (x + 1) y (by omega) (by omega) hy (fun j h1 h2 => hj j (by omega) h2) ho
    obtain ⟨b, hb⟩ := list_get (show x < w.length by omega)
    have : b = false := by
      have := hj x (Nat.le_refl _) (by omega)
      rw [hb] at this
      cases b
      · rfl
      · exact absurd rfl this
    subst this
    refine Ev.succ ?_
    simp only [impl_heightsOf.l2]
    refine Ev.ct (dt (by omega)) (Ev.idx hb (Ev.ct rfl ?_))
    rw [wrap_nat (by omega)]
    exact h1

theorem nextL_in {code : List GI2} (hj : JumpsOk code) {i : GI2} {x : Nat} (hi : code[x]? = some i) : ∀ n ∈ nextL i (x : Int), 0 ≤ n ∧ n ≤ (code.length : Int) := by
  intro n hn
  have hx := (List.getElem?_eq_some_iff.1 hi).1
  refine ⟨nextL_pos hj (List.mem_of_getElem? hi) x n hn, ?_⟩
  unfold nextL at hn
  split at hn
  · cases hn
  split at hn
  · simp at hn; subst hn; have := (hj i (List.mem_of_getElem? hi) (.inl ‹_›)).2; omega
  split at hn
  · simp at hn
    rcases hn with rfl | rfl
    · omega
    · have := (hj i (List.mem_of_getElem? hi) (.inr ‹_›)).2; omega
  · simp at hn; omega

theorem implRun (p : GProgram) (code : List GI2) (hj : JumpsOk code) (hlen : code.length < 1000000) {h : List Int} {w : List Bool} {r : Option (List Int)} (hr : HRun (stepI p code) h w r) :
    h.length = code.length → w.length = code.length → ∀ x : Nat, x ≤ code.length → (∀ j : Nat, j < x → w[j]? ≠ some true) → ∃ o, Ev (fun k => impl_heightsOf.l2 k p.funcs h w code (x : Int)) o ∧ ImplRes code o r := by
  have round : ∀ (h : List Int) (w : List Bool) (x : Nat), h.length = code.length → w.length = code.length → Least w x →
      match stepI p code x h w with
      | none => ∃ o, Ev (fun k => impl_heightsOf.l2 k p.funcs h w code (x : Int)) o ∧ ∃ e, o = .inl e ∧ e.2.2 ≠ 0
      | some (h', w') => ∃ L' : Nat, L' ≤ x ∧ (∀ j : Nat, j < L' → w'[j]? ≠ some true) ∧ ∀ o, Ev (fun k => impl_heightsOf.l2 k p.funcs h' w' code (L' : Int)) o → Ev (fun k => impl_heightsOf.l2 k p.funcs h w code (x : Int)) o := by
    intro h w x hh hw hx
    have hxw := (List.getElem?_eq_some_iff.1 hx.1).1
    obtain ⟨i, hi⟩ := list_get (show x < code.length by omega)
    obtain ⟨y, hy⟩ := list_get (show x < h.length by omega)
    generalize hq : IntKind.i64.wrap (y - takesL p i) = q
    generalize hv : IntKind.i64.wrap (q + putsL i) = v
    have ha3 : Ev (fun k => impl_heightsOf.a3 k p.funcs h (w.set x false) i code (x : Int) q) (if q < 0 ∨ 8 < v then .inl (h, (x : Int), 5) else .inr (p.funcs, h, w.set x false, i, code, (x : Int), q)) := by
      unfold impl_heightsOf.a3
      by_cases c1 : q < 0
      · rw [if_pos (.inl c1)]; exact Ev.ct (dt c1) Ev.pure
      · refine Ev.cf (df c1) (Ev.bind (Ev.const (implPuts i)) ?_)
        rw [hv]
        by_cases c2 : 8 < v
        · rw [if_pos (.inr c2)]; exact Ev.ct (dt c2) Ev.pure
        · rw [if_neg (by omega)]; exact Ev.cf (df c2) Ev.pure
    unfold stepI
    simp only [hi, hy, hq, hv]
    by_cases c : q < 0 ∨ 8 < v
    · have : (if q < 0 then none else if 8 < v then none else putN code.length v (nextL i x) h (w.set x false)) = none := by
        rcases c with c | c
        · rw [if_pos c]
        · by_cases d : q < 0
          · rw [if_pos d]
          · rw [if_neg d, if_pos c]
      rw [this]
      refine ⟨.inl (h, (x : Int), 5), ?_, _, rfl, by simp⟩
      refine Ev.succ ?_
      simp only [impl_heightsOf.l2]
      refine Ev.ct (dt (by omega)) (Ev.idx hx.1 (Ev.cf rfl (Ev.idx hi (Ev.idx hy ?_))))
      simp only [implTakes, Option.bind_some, Int.toNat_natCast, hq]
      refine Ev.bind ha3 ?_
      rw [if_pos c]
      exact Ev.pure
    · rw [if_neg (by omega), if_neg (by omega)]
      obtain ⟨o, ho, hm⟩ := implPut p.funcs code i (x : Int) q v hv (by omega) (nextL i x) [] h (w.set x false) x (nextL_in hj hi) hh (by simpa using hw) (by have := nextL_length i x; simp; omega)
      have go : ∀ o', Ev (fun k => (Sum.elim (fun o4l => some (.inl (o4l.1, o4l.2.1, o4l.2.2))) (fun o4r => impl_heightsOf.l2 k o4r.1 o4r.2.1 o4r.2.2.1 o4r.2.2.2.1 o4r.2.2.2.2) o : Option ((List Int × Int × Int) ⊕ List Int))) o' → Ev (fun k => impl_heightsOf.l2 k p.funcs h w code (x : Int)) o' := by
        intro o' h'
        refine Ev.succ ?_
        simp only [impl_heightsOf.l2]
        refine Ev.ct (dt (by omega)) (Ev.idx hx.1 (Ev.cf rfl (Ev.idx hi (Ev.idx hy ?_))))
        simp only [implTakes, Option.bind_some, Int.toNat_natCast, hq]
        refine Ev.bind ha3 ?_
        rw [if_neg c]
        simp only [Sum.elim_inr, implNext i x (by omega), Option.bind_some]
        exact Ev.bind ho h'
      cases hput : putN code.length v (nextL i x) h (w.set x false) with
      | none =>
        rw [hput] at hm
        obtain ⟨e, rfl, he⟩ := hm
        exact ⟨.inl e, go _ Ev.pure, e, rfl, he⟩
      | some z =>
        obtain ⟨h', w'⟩ := z
        rw [hput] at hm
        obtain ⟨L', rfl, h2, h3⟩ := hm
        refine ⟨L', h2, h3 fun j hj => ?_, fun o ho => go o ho⟩
        rw [List.getElem?_set_ne (by omega)]
        exact hx.2 j hj
  induction hr with
  | @done h w h1 =>
    intro hh hw x hx hj
    refine ⟨.inr h, implSkip p code (by omega) h w hw _ _ x code.length rfl hx (Nat.le_refl _) (fun j _ _ => h1 j) ?_, rfl, hh⟩
    refine Ev.succ ?_
    simp only [impl_heightsOf.l2]
    exact Ev.cf (df (by omega)) Ev.pure
  | @bad h w y h1 h2 =>
    intro hh hw x hx hj
    have hyw := (List.getElem?_eq_some_iff.1 h1.1).1
    have hxy : x ≤ y := by
      rcases Nat.lt_or_ge y x with hlt | hge
      · exact absurd h1.1 (hj y hlt)
      · exact hge
    have := round _ _ _ hh hw h1
    rw [h2] at this
    obtain ⟨o, ho, he⟩ := this
    exact ⟨o, implSkip p code (by omega) h w hw _ _ x y rfl hxy (by omega) (fun j _ hj2 => h1.2 j hj2) ho, he⟩
  | @go h h' w w' y r h1 h2 h3 ih =>
    intro hh hw x hx hj
    have hyw := (List.getElem?_eq_some_iff.1 h1.1).1
    have hxy : x ≤ y := by
      rcases Nat.lt_or_ge y x with hlt | hge
      · exact absurd h1.1 (hj y hlt)
      · exact hge
    have hr := round _ _ _ hh hw h1
    rw [h2] at hr
    obtain ⟨L', l1, l2, l3⟩ := hr
    have hl : h'.length = code.length ∧ w'.length = code.length := by
      unfold stepI at h2
      split at h2
      · split at h2
        · cases h2
        split at h2
        · cases h2
        obtain ⟨i1, i2, -⟩ := putN_inv 0 (A := fun _ => True) (W := fun _ => True) trivial trivial _ _ _ _ _ (show HInv (fun _ => True) (fun _ => True) h (w.set y false) from ⟨by simp; omega, fun _ _ _ => trivial, fun _ _ _ _ => trivial⟩) h2
        exact ⟨by omega, by have := i1.len; omega⟩
      · cases h2
    obtain ⟨o, ho, hm⟩ := ih hl.1 hl.2 L' (by omega) l2
    exact ⟨o, implSkip p code (by omega) h w hw _ _ x y rfl hxy (by omega) (fun j _ hj2 => h1.2 j hj2) (l3 o ho), hm⟩

end Go.Proofs.Ytdlaplgofgklnaa
namespace Go.Proofs.Ytdlaplgofgklnaa
open Go.Proofs Go.Proofs.Ytdlaplgofgklnaa.L
set_option linter.unusedVariables false
set_option linter.unusedSimpArgs false
set_option maxRecDepth 10000

def opKnown (a : Int) : Bool := decide ((1 ≤ a ∧ a ≤ 5) ∨ (10 ≤ a ∧ a ≤ 38))
def insOk (p : GProgram) (m : GFunc) (i : GI2) : Bool :=
  if i.a = 1 then true else if i.a = 2 ∨ i.a = 3 then decide (0 ≤ i.b ∧ i.b < m.locals) else if i.a = 30 ∨ i.a = 31 then decide (0 ≤ i.b ∧ i.b < (m.code.length : Int))
  else if i.a = 32 then decide (0 ≤ i.b ∧ i.b < (p.funcs.length : Int)) else (opKnown i.a && (i.b == 0))

theorem specOp (k : Nat) (a : Int) : ∃ t, spec_OpName k a = some t ∧ (t.toList == (⟨#[]⟩ : ByteArray).toList) = !opKnown a := by
  rcases op_cases a with (rfl | rfl | rfl | rfl | rfl | rfl | rfl | rfl | rfl | rfl | rfl | rfl | rfl | rfl | rfl | rfl | rfl | rfl | rfl | rfl | rfl | rfl | rfl | rfl | rfl | rfl | rfl | rfl | rfl | rfl | rfl | rfl | rfl | rfl | rfl | rfl | rfl | rfl | rfl) | h
  all_goals (try exact ⟨_, rfl, by decide +kernel⟩)
  refine ⟨⟨#[]⟩, ?_, ?_⟩
  · unfold spec_OpName spec_OpName.a1
    rcases h with h | h
    · simp [show ¬ 1 ≤ a by omega, show ¬ 10 ≤ a by omega]
    · simp [show 1 ≤ a by omega, show ¬ a ≤ 5 by omega, show 10 ≤ a by omega, show ¬ a ≤ 38 by omega]
  · have : opKnown a = false := by unfold opKnown; rw [decide_eq_false_iff_not]; omega
    rw [this]; simp
theorem implOp (a : Int) : ∃ t, impl_OpName a = some t ∧ (t.toList == (⟨#[]⟩ : ByteArray).toList) = !opKnown a := by
  rcases op_cases a with (rfl | rfl | rfl | rfl | rfl | rfl | rfl | rfl | rfl | rfl | rfl | rfl | rfl | rfl | rfl | rfl | rfl | rfl | rfl | rfl | rfl | rfl | rfl | rfl | rfl | rfl | rfl | rfl | rfl | rfl | rfl | rfl | rfl | rfl | rfl | rfl | rfl | rfl | rfl) | h
  all_goals (try exact ⟨_, rfl, by decide +kernel⟩)
  refine ⟨⟨#[]⟩, ?_, ?_⟩
  · unfold impl_OpName impl_in
    rcases h with h | h
    · simp [show ¬ 0 ≤ a by omega]
    · simp [show 0 ≤ a by omega, show ¬ a ≤ 38 by omega]
  · have : opKnown a = false := by unfold opKnown; rw [decide_eq_false_iff_not]; omega
    rw [this]; simp

theorem specIns (k : Nat) {p : GProgram} {f : Nat} {m : GFunc} (hm : p.funcs[f]? = some m) (i : GI2) : spec_InsRight k p (f : Int) i = some (insOk p m i) := by
  obtain ⟨a, b⟩ := i
  have hf := (List.getElem?_eq_some_iff.1 hm).1
  obtain ⟨t, ht, hk⟩ := specOp k a
  unfold spec_InsRight spec_InsRight.a1 spec_InsRight.a2 spec_InsRight.a3 spec_InsRight.a4 insOk
  simp only [show ¬ (f : Int) < 0 by omega, show ¬ (f : Int) ≥ (p.funcs.length : Int) by omega, decide_false, cond_false, Option.bind_some, Sum.elim_inr, idx_nat, hm, ht, hk]
  by_cases h1 : a = 1
  · simp [h1]
  have e1 : (a == 1) = false := by simpa using h1
  by_cases h2 : a = 2
  · by_cases hb : 0 ≤ b <;> simp [h2, hb, idx_nat, hm]
  have e2 : (a == 2) = false := by simpa using h2
  by_cases h3 : a = 3
  · by_cases hb : 0 ≤ b <;> simp [h3, hb, idx_nat, hm]
  have e3 : (a == 3) = false := by simpa using h3
  by_cases h4 : a = 30
  · by_cases hb : 0 ≤ b <;> simp [h4, hb, idx_nat, hm]
  have e4 : (a == 30) = false := by simpa using h4
  by_cases h5 : a = 31
  · by_cases hb : 0 ≤ b <;> simp [h5, hb, idx_nat, hm]
  have e5 : (a == 31) = false := by simpa using h5
  by_cases h6 : a = 32
  · by_cases hb : 0 ≤ b <;> simp [h6, hb, idx_nat, hm]
  have e6 : (a == 32) = false := by simpa using h6
  simp only [e1, e2, e3, e4, e5, e6, h1, h2, h3, h4, h5, h6, cond_false, Option.bind_some, Sum.elim_inr, if_false, or_self]
  simp only [ht, hk, Option.bind_some, Bool.not_not]
  cases opKnown a <;> simp

theorem implIns (k : Nat) {p : GProgram} {f : Nat} {m : GFunc} (hm : p.funcs[f]? = some m) (i : GI2) : impl_InsRight k p (f : Int) i = some (insOk p m i) := by
  obtain ⟨a, b⟩ := i
  have hf := (List.getElem?_eq_some_iff.1 hm).1
  obtain ⟨t, ht, hk⟩ := implOp a
  unfold impl_InsRight impl_InsRight.a1 impl_InsRight.a2 impl_InsRight.a3 impl_hasFunc insOk
  simp only [show (f : Int) ≥ 0 by omega, show (f : Int) < (p.funcs.length : Int) by omega, decide_true, cond_true, cond_false, Bool.not_true, Option.bind_some, Sum.elim_inr, idx_nat, hm, ht, hk]
  by_cases h1 : a = 1
  · simp [h1]
  have e1 : (a == 1) = false := by simpa using h1
  by_cases h2 : a = 2
  · by_cases hb : 0 ≤ b <;> simp [h2, hb, idx_nat, hm]
  have e2 : (a == 2) = false := by simpa using h2
  by_cases h3 : a = 3
  · by_cases hb : 0 ≤ b <;> simp [h3, hb, idx_nat, hm]
  have e3 : (a == 3) = false := by simpa using h3
  by_cases h4 : a = 30
  · by_cases hb : 0 ≤ b <;> simp [h4, hb, idx_nat, hm]
  have e4 : (a == 30) = false := by simpa using h4
  by_cases h5 : a = 31
  · by_cases hb : 0 ≤ b <;> simp [h5, hb, idx_nat, hm]
  have e5 : (a == 31) = false := by simpa using h5
  by_cases h6 : a = 32
  · by_cases hb : 0 ≤ b <;> simp [h6, hb, idx_nat, hm]
  have e6 : (a == 32) = false := by simpa using h6
  simp only [e1, e2, e3, e4, e5, e6, h1, h2, h3, h4, h5, h6, cond_false, Option.bind_some, Sum.elim_inr, if_false, or_self]
  simp only [ht, hk, Option.bind_some, Bool.not_not]
  cases opKnown a <;> simp

theorem insOk_jump {p : GProgram} {m : GFunc} {i : GI2} (h : insOk p m i = true) (hj : i.a = 30 ∨ i.a = 31) : 0 ≤ i.b ∧ i.b < (m.code.length : Int) := by
  unfold insOk at h
  rw [if_neg (by omega), if_neg (by omega), if_pos hj] at h
  simpa using h

/-! ### Heights, from the beginning -/
def h0 (n : Nat) : List Int := (List.replicate n (-1)).set 0 0
def w0 (n : Nat) : List Bool := (List.replicate n false).set 0 true
theorem h0_len (n : Nat) : (h0 n).length = n := by simp [h0]
theorem w0_len (n : Nat) : (w0 n).length = n := by simp [w0]
theorem h0_inv {A W : Int → Prop} (n : Nat) (a1 : A (-1)) (a0 : A 0) (hw : W 0) : HInv A W (h0 n) (w0 n) := by
  refine ⟨by rw [h0_len, w0_len], fun j x hx => ?_, fun j x hx hj => ?_⟩
  · by_cases e : 0 = j
    · subst e
      unfold h0 at hx
      by_cases hn : 0 < n
      · rw [List.getElem?_set_self (by simpa using hn)] at hx; cases hx; exact a0
      · rw [List.getElem?_eq_none (by simp; omega)] at hx; cases hx
    · unfold h0 at hx
      rw [List.getElem?_set_ne e, List.getElem?_replicate] at hx
      split at hx
      · cases hx; exact a1
      · cases hx
  · by_cases e : 0 = j
    · subst e
      unfold h0 at hx
      by_cases hn : 0 < n
      · rw [List.getElem?_set_self (by simpa using hn)] at hx; cases hx; exact hw
      · rw [List.getElem?_eq_none (by simp; omega)] at hx; cases hx
    · unfold w0 at hj
      rw [List.getElem?_set_ne e, List.getElem?_replicate] at hj
      split at hj <;> cases hj

theorem specFill (fs : List GFunc) (z : GI3) (f : Int) (code : List GI2) (n : Nat) (hn : n < 1000000) : ∀ (d i : Nat) (acc : List Int), n - i = d → i ≤ n → acc.length = n → (∀ j : Nat, j < i → acc[j]? = some (-1)) →
    Ev (fun k => spec_l04Heights.l1 k fs z acc f code (i : Int)) (fs, z, List.replicate n (-1), f, code) := by
  intro d
  induction d with
  | zero =>
    intro i acc hd hi ha hj
    have : acc = List.replicate n (-1) := by
      apply List.ext_getElem?
      intro j
      rcases Nat.lt_or_ge j n with h | h
      · rw [hj j (by omega), List.getElem?_replicate, if_pos h]
      · rw [List.getElem?_eq_none (by omega), List.getElem?_eq_none (by simp; omega)]
    rw [this]
    refine Ev.succ ?_
    simp only [spec_l04Heights.l1]
    exact Ev.cf (df (by simp; omega)) Ev.pure
  | succ d ih =>
    intro i acc hd hi ha hj
    obtain ⟨m, hm⟩ := list_get (show i < acc.length by omega)
    refine Ev.succ ?_
    simp only [spec_l04Heights.l1]
    refine Ev.ct (dt (by omega)) (Ev.idx hm ?_)
    rw [wrap_nat (by omega), Int.toNat_natCast]
    refine ih (i + 1) _ (by omega) (by omega) (by simpa using ha) (fun j hji => ?_)
    by_cases e : i = j
    · subst e; rw [List.getElem?_set_self (by omega)]
    · rw [List.getElem?_set_ne e]; exact hj j (by omega)
theorem implFill (fs : List GFunc) (w : List Bool) (code : List GI2) (n : Nat) (hn : n < 1000000) : ∀ (d i : Nat) (acc : List Int), n - i = d → i ≤ n → acc.length = n → (∀ j : Nat, j < i → acc[j]? = some (-1)) →
    Ev (fun k => impl_heightsOf.l1 k fs acc w code (n : Int) (i : Int)) (fs, List.replicate n (-1), w, code) := by
  intro d
  induction d with
  | zero =>
    intro i acc hd hi ha hj
    have : acc = List.replicate n (-1) := by
      apply List.ext_getElem?
      intro j
      rcases Nat.lt_or_ge j n with h | h
      · rw [hj j (by omega), List.getElem?_replicate, if_pos h]
      · rw [List.getElem?_eq_none (by omega), List.getElem?_eq_none (by simp; omega)]
    rw [this]
    refine Ev.succ ?_
    simp only [impl_heightsOf.l1]
    exact Ev.cf (df (by omega)) Ev.pure
  | succ d ih =>
    intro i acc hd hi ha hj
    obtain ⟨m, hm⟩ := list_get (show i < acc.length by omega)
    refine Ev.succ ?_
    simp only [impl_heightsOf.l1]
    refine Ev.ct (dt (by omega)) (Ev.idx hm ?_)
    rw [wrap_nat (by omega), Int.toNat_natCast]
    refine ih (i + 1) _ (by omega) (by omega) (by simpa using ha) (fun j hji => ?_)
    by_cases e : i = j
    · subst e; rw [List.getElem?_set_self (by omega)]
    · rw [List.getElem?_set_ne e]; exact hj j (by omega)

theorem rep_get {α : Type} {n : Nat} {x : α} (h : 1 ≤ n) : (List.replicate n x)[(0 : Int).toNat]? = some x := by
  rw [List.getElem?_replicate, if_pos (by simp; omega)]

theorem specHeights {p : GProgram} {f : Nat} {m : GFunc} (hm : p.funcs[f]? = some m) (hj : JumpsOk m.code) (h1 : 1 ≤ m.code.length) (h2 : m.code.length ≤ 60) {r : Option (List Int)}
    (hr : HRun (stepS p m.code) (h0 m.code.length) (w0 m.code.length) r) : ∃ o, Ev (fun k => spec_l04Heights k p (f : Int)) o ∧ SpecRes m.code o r := by
  obtain ⟨o, ho, hres⟩ := specRun p (f : Int) m.code ⟨0, 0, 0⟩ hj (by omega) hr (h0_len _) (w0_len _)
  refine ⟨o, ?_, hres⟩
  unfold spec_l04Heights
  refine Ev.idx hm (Ev.gd ⟨by omega, by omega, by omega⟩ (Ev.bind (specFill p.funcs ⟨0, 0, 0⟩ (f : Int) m.code m.code.length (by omega) _ 0 _ rfl (by omega) (by simp) (fun j hj => by omega)) ?_))
  refine Ev.idxI (by omega) (rep_get h1) (Ev.gd ⟨by simp, by simp; omega, by simp; omega⟩ (Ev.idxI (by omega) (rep_get h1) (Ev.bind ho Ev.pure)))

/-- What the program's heights tell. -/
def HRes (code : List GI2) (o : List Int × Int × Int) : Option (List Int) → Prop
  | some hf => o = (hf, 0, 0) ∧ hf.length = code.length
  | none => o.2.2 ≠ 0
theorem implHeights {p : GProgram} {f : Nat} {m : GFunc} (hm : p.funcs[f]? = some m) (hj : JumpsOk m.code) (h1 : 1 ≤ m.code.length) (h2 : m.code.length ≤ 60) {r : Option (List Int)}
    (hr : HRun (stepI p m.code) (h0 m.code.length) (w0 m.code.length) r) : ∃ o, Ev (fun k => impl_heightsOf k p (f : Int)) o ∧ HRes m.code o r := by
  obtain ⟨o, ho, hres⟩ := implRun p m.code hj (by omega) hr (h0_len _) (w0_len _) 0 (by omega) (fun j hj => by omega)
  have key : ∀ o', (Ev (fun _ => (Sum.elim (fun o2l => some (o2l.1, o2l.2.1, o2l.2.2)) (fun o2r => some (o2r, 0, 0)) o : Option (List Int × Int × Int))) o') → Ev (fun k => impl_heightsOf k p (f : Int)) o' := by
    intro o' h'
    unfold impl_heightsOf
    refine Ev.idx hm (Ev.gd ⟨by omega, by omega, by omega⟩ (Ev.gd ⟨by omega, by omega, by omega⟩ (Ev.bind (implFill p.funcs _ m.code m.code.length (by omega) _ 0 _ rfl (by omega) (by simp) (fun j hj => by omega)) ?_)))
    exact Ev.idxI (by omega) (rep_get h1) (Ev.idxI (by omega) (rep_get h1) (Ev.bind ho h'))
  cases r with
  | none =>
    obtain ⟨e, rfl, he⟩ := hres
    exact ⟨_, key _ Ev.pure, he⟩
  | some hf =>
    obtain ⟨rfl, hl⟩ := hres
    exact ⟨_, key _ Ev.pure, rfl, hl⟩

/-- Both heights have an answer; where no function takes more than it may they are the same. -/
theorem heights_both {p : GProgram} (ha : Args64 p) {f : Nat} {m : GFunc} (hm : p.funcs[f]? = some m) (hj : JumpsOk m.code) (h1 : 1 ≤ m.code.length) (h2 : m.code.length ≤ 60) :
    ∃ rI rS oI oS, HRun (stepI p m.code) (h0 m.code.length) (w0 m.code.length) rI ∧ Ev (fun k => impl_heightsOf k p (f : Int)) oI ∧ HRes m.code oI rI ∧ Ev (fun k => spec_l04Heights k p (f : Int)) oS ∧ SpecRes m.code oS rS ∧ (Normal p → rI = rS ∧ HRun (stepN p m.code) (h0 m.code.length) (w0 m.code.length) rI) := by
  obtain ⟨rI, hI⟩ := run_ex (goodI p m.code ha) _ _ _ rfl (h0_len _) (h0_inv m.code.length (by omega) (by omega) (by omega))
  obtain ⟨rS, hS⟩ := run_ex (goodS p m.code ha) _ _ _ rfl (h0_len _) (h0_inv m.code.length (by omega) (by omega) (by omega))
  obtain ⟨oI, e1, e2⟩ := implHeights hm hj h1 h2 hI
  obtain ⟨oS, e3, e4⟩ := specHeights hm hj h1 h2 hS
  refine ⟨rI, rS, oI, oS, hI, e1, e2, e3, e4, fun hN => ?_⟩
  have hi : HInv A1 W1 (h0 m.code.length) (w0 m.code.length) := h0_inv m.code.length (by omega) (by omega) (by omega)
  have i1 := run_N hN (fun x h w hh hw => stepI_N hN hh hw) hI hi
  have i2 := run_N hN (fun x h w hh hw => stepS_N hN hh hw) hS hi
  exact ⟨run_same i1 i2, i1⟩

end Go.Proofs.Ytdlaplgofgklnaa
namespace Go.Proofs.Ytdlaplgofgklnaa
open Go.Proofs Go.Proofs.Ytdlaplgofgklnaa.L
set_option linter.unusedVariables false
set_option linter.unusedSimpArgs false

structure FormOk (p : GProgram) (m : GFunc) : Prop where
  args : 0 ≤ m.args ∧ m.args ≤ 4
  locals : m.args ≤ m.locals ∧ m.locals ≤ 8
  code : 1 ≤ m.code.length ∧ m.code.length ≤ 60
  ins : ∀ i ∈ m.code, insOk p m i = true
theorem FormOk.jumps {p : GProgram} {m : GFunc} (h : FormOk p m) : JumpsOk m.code := fun i hi hj => insOk_jump (h.ins i hi) hj

abbrev RunI (p : GProgram) (m : GFunc) (r : Option (List Int)) : Prop := HRun (stepI p m.code) (h0 m.code.length) (w0 m.code.length) r
abbrev RunS (p : GProgram) (m : GFunc) (r : Option (List Int)) : Prop := HRun (stepS p m.code) (h0 m.code.length) (w0 m.code.length) r
abbrev RunN (p : GProgram) (m : GFunc) (r : Option (List Int)) : Prop := HRun (stepN p m.code) (h0 m.code.length) (w0 m.code.length) r

/-- Do all instructions from a place on stand right? -/
theorem ins_from {p : GProgram} {m : GFunc} : (∀ i ∈ m.code, insOk p m i = true) ∨ ∃ x i, m.code[x]? = some i ∧ insOk p m i = false ∧ ∀ (y : Nat) (j : GI2), y < x → m.code[y]? = some j → insOk p m j = true := by
  by_cases h : ∀ i ∈ m.code, insOk p m i = true
  · exact .inl h
  · right
    obtain ⟨x, i, hx, hi⟩ : ∃ x i, m.code[x]? = some i ∧ insOk p m i = false := by
      have : ∃ i, i ∈ m.code ∧ insOk p m i = false := by
        refine Classical.byContradiction fun hh => h fun i hi => ?_
        cases e : insOk p m i with
        | true => rfl
        | false => exact absurd ⟨i, hi, e⟩ hh
      obtain ⟨i, hi, he⟩ := this
      obtain ⟨x, hx⟩ := List.getElem?_of_mem hi
      exact ⟨x, i, hx, he⟩
    induction x using Nat.strongRecOn generalizing i with
    | _ x ih =>
      by_cases c : ∃ y j, y < x ∧ m.code[y]? = some j ∧ insOk p m j = false
      · obtain ⟨y, j, hy, hj, he⟩ := c
        exact ih y hy j hj he
      · refine ⟨x, i, hx, hi, fun y j hy hj => ?_⟩
        cases e : insOk p m j with
        | true => rfl
        | false => exact absurd ⟨y, j, hy, hj, e⟩ c

theorem implInsLoop {p : GProgram} {f : Nat} {m : GFunc} (hm : p.funcs[f]? = some m) (hl : m.code.length ≤ 60) (z : GI3) (hs : List (List Int)) (fs : List GFunc) (L J : Int) (h : ∀ i ∈ m.code, insOk p m i = true) : ∀ (d x : Nat), m.code.length - x = d → x ≤ m.code.length →
    Ev (fun k => impl_verify.l5 k p.funcs z hs (f : Int) fs L J m.code (m.code.length : Int) (x : Int)) (.inr (p.funcs, z, hs, (f : Int), fs, L, J)) := by
  intro d
  induction d with
  | zero =>
    intro x hd hx
    refine Ev.succ ?_
    simp only [impl_verify.l5]
    exact Ev.cf (df (by omega)) Ev.pure
  | succ d ih =>
    intro x hd hx
    obtain ⟨i, hi⟩ := list_get (show x < m.code.length by omega)
    refine Ev.succ ?_
    simp only [impl_verify.l5]
    refine Ev.ct (dt (by omega)) (Ev.idx hi (Ev.bind (Ev.of fun k => implIns k hm i) (Ev.cf (by rw [h i (List.mem_of_getElem? hi)]; rfl) ?_)))
    rw [wrap_nat (by omega)]
    exact ih (x + 1) (by omega) (by omega)
theorem implInsBad {p : GProgram} {f : Nat} {m : GFunc} (hm : p.funcs[f]? = some m) (hl : m.code.length ≤ 60) (z : GI3) (hs : List (List Int)) (fs : List GFunc) (L J : Int) {y : Nat} {b : GI2} (hy : m.code[y]? = some b) (hb : insOk p m b = false) (h : ∀ (x : Nat) (j : GI2), x < y → m.code[x]? = some j → insOk p m j = true) : ∀ (d x : Nat), y - x = d → x ≤ y →
    Ev (fun k => impl_verify.l5 k p.funcs z hs (f : Int) fs L J m.code (m.code.length : Int) (x : Int)) (.inl (⟨(f : Int), (y : Int), 1⟩, [])) := by
  have hyl := (List.getElem?_eq_some_iff.1 hy).1
  intro d
  induction d with
  | zero =>
    intro x hd hx
    have : x = y := by omega
    subst this
    refine Ev.succ ?_
    simp only [impl_verify.l5]
    exact Ev.ct (dt (by omega)) (Ev.idx hy (Ev.bind (Ev.of fun k => implIns k hm b) (Ev.ct (by rw [hb]; rfl) Ev.pure)))
  | succ d ih =>
    intro x hd hx
    obtain ⟨i, hi⟩ := list_get (show x < m.code.length by omega)
    refine Ev.succ ?_
    simp only [impl_verify.l5]
    refine Ev.ct (dt (by omega)) (Ev.idx hi (Ev.bind (Ev.of fun k => implIns k hm i) (Ev.cf (by rw [h x i (by omega) hi]; rfl) ?_)))
    rw [wrap_nat (by omega)]
    exact ih (x + 1) (by omega) (by omega)

theorem specInsLoop {p : GProgram} {f : Nat} {m : GFunc} (hm : p.funcs[f]? = some m) (hl : m.code.length ≤ 60) (z : GI3) (A B : Int) (h : ∀ i ∈ m.code, insOk p m i = true) : ∀ (d x : Nat), m.code.length - x = d → x ≤ m.code.length →
    Ev (fun k => spec_l04Func.l2 k p.funcs z A B m.code (f : Int) (x : Int)) (.inr (p.funcs, z, (f : Int))) := by
  intro d
  induction d with
  | zero =>
    intro x hd hx
    refine Ev.succ ?_
    simp only [spec_l04Func.l2]
    exact Ev.cf (df (by omega)) Ev.pure
  | succ d ih =>
    intro x hd hx
    obtain ⟨i, hi⟩ := list_get (show x < m.code.length by omega)
    refine Ev.succ ?_
    simp only [spec_l04Func.l2]
    refine Ev.ct (dt (by omega)) (Ev.idx hi (Ev.bind (Ev.of fun k => specIns k hm i) (Ev.cf (by rw [h i (List.mem_of_getElem? hi)]; rfl) ?_)))
    rw [wrap_nat (by omega)]
    exact ih (x + 1) (by omega) (by omega)
theorem specInsBad {p : GProgram} {f : Nat} {m : GFunc} (hm : p.funcs[f]? = some m) (hl : m.code.length ≤ 60) (z : GI3) (A B : Int) {y : Nat} {b : GI2} (hy : m.code[y]? = some b) (hb : insOk p m b = false) (h : ∀ (x : Nat) (j : GI2), x < y → m.code[x]? = some j → insOk p m j = true) : ∀ (d x : Nat), y - x = d → x ≤ y →
    Ev (fun k => spec_l04Func.l2 k p.funcs z A B m.code (f : Int) (x : Int)) (.inl ⟨(f : Int), (y : Int), 1⟩) := by
  have hyl := (List.getElem?_eq_some_iff.1 hy).1
  intro d
  induction d with
  | zero =>
    intro x hd hx
    have : x = y := by omega
    subst this
    refine Ev.succ ?_
    simp only [spec_l04Func.l2]
    exact Ev.ct (dt (by omega)) (Ev.idx hy (Ev.bind (Ev.of fun k => specIns k hm b) (Ev.ct (by rw [hb]; rfl) Ev.pure)))
  | succ d ih =>
    intro x hd hx
    obtain ⟨i, hi⟩ := list_get (show x < m.code.length by omega)
    refine Ev.succ ?_
    simp only [spec_l04Func.l2]
    refine Ev.ct (dt (by omega)) (Ev.idx hi (Ev.bind (Ev.of fun k => specIns k hm i) (Ev.cf (by rw [h x i (by omega) hi]; rfl) ?_)))
    rw [wrap_nat (by omega)]
    exact ih (x + 1) (by omega) (by omega)

def formB (m : GFunc) : Prop := (0 ≤ m.args ∧ m.args ≤ 4) ∧ (m.args ≤ m.locals ∧ m.locals ≤ 8) ∧ 1 ≤ m.code.length ∧ m.code.length ≤ 60
instance (m : GFunc) : Decidable (formB m) := by unfold formB; exact inferInstance

theorem impl_in_eq (n a b : Int) : impl_in n a b = some (decide (a ≤ n ∧ n ≤ b)) := by
  unfold impl_in
  by_cases h : a ≤ n
  · simp [h]
  · simp [h]

/-- What is asked of a function, in the program. -/
theorem implFunc {p : GProgram} (ha : Args64 p) {f : Nat} {m : GFunc} (hm : p.funcs[f]? = some m) (z : GI3) (L : Int) :
    (∃ e : GI3, e.c ≠ 0 ∧ (∀ h, ¬ (FormOk p m ∧ RunI p m (some h))) ∧ ∀ hs, Ev (fun k => impl_verify.a3 k p.funcs z hs p.funcs L (f : Int)) (.inl (e, []))) ∨
    (∃ h, FormOk p m ∧ RunI p m (some h) ∧ h.length = m.code.length ∧ ∀ hs : List (List Int), hs.length ≤ 100 → Ev (fun k => impl_verify.a3 k p.funcs z hs p.funcs L (f : Int)) (.inr (p.funcs, z, hs ++ [h], p.funcs, L, (f : Int)))) := by
  by_cases hf : formB m
  · obtain ⟨f1, f2, f3, f4⟩ := hf
    have ha4 : ∀ hs, Ev (fun k => impl_verify.a4 k p.funcs z hs m.args m.locals m.code (f : Int) p.funcs L (f : Int)) (.inr (p.funcs, z, hs, m.args, m.locals, m.code, (f : Int), p.funcs, L, (f : Int))) := by
      intro hs
      unfold impl_verify.a4
      simp only [impl_in_eq]
      refine Ev.bind Ev.pure (Ev.cf (by simp; omega) (Ev.bind Ev.pure (Ev.cf (by simp; omega) (Ev.bind Ev.pure (Ev.cf (by simp; omega) Ev.pure)))))
    rcases ins_from (p := p) (m := m) with hi | ⟨y, b, hy, hb, hlt⟩
    · have hF : FormOk p m := ⟨f1, f2, ⟨f3, f4⟩, hi⟩
      obtain ⟨rI, rS, oI, oS, hI, e1, e2, -, -, -⟩ := heights_both ha hm hF.jumps f3 f4
      cases rI with
      | none =>
        left
        refine ⟨⟨(f : Int), oI.2.1, oI.2.2⟩, e2, fun h hh => (by have := run_same hI hh.2; cases this), fun hs => ?_⟩
        unfold impl_verify.a3
        refine Ev.idx hm (Ev.bind (ha4 hs) (Ev.bind (implInsLoop hm f4 z hs p.funcs L (f : Int) hi _ 0 rfl (by omega)) ?_))
        refine Ev.bind e1 (Ev.ct ?_ Ev.pure)
        have e2' : oI.2.2 ≠ 0 := e2
        simpa using e2'
      | some h =>
        right
        obtain ⟨rfl, hl⟩ := e2
        refine ⟨h, hF, hI, hl, fun hs hlen => ?_⟩
        unfold impl_verify.a3
        refine Ev.idx hm (Ev.bind (ha4 hs) (Ev.bind (implInsLoop hm f4 z hs p.funcs L (f : Int) hi _ 0 rfl (by omega)) ?_))
        exact Ev.bind e1 (Ev.cf (by simp) (Ev.gd ⟨by simp only []; omega, by simp only []; omega⟩ Ev.pure))
    · left
      refine ⟨⟨(f : Int), (y : Int), 1⟩, by simp, fun h hh => (by have := hh.1.ins b (List.mem_of_getElem? hy); rw [hb] at this; cases this), fun hs => ?_⟩
      unfold impl_verify.a3
      exact Ev.idx hm (Ev.bind (ha4 hs) (Ev.bind (implInsBad hm f4 z hs p.funcs L (f : Int) hy hb hlt _ 0 rfl (by omega)) Ev.pure))
  · left
    refine ⟨⟨(f : Int), 0, 1⟩, by simp, fun h hh => hf ⟨hh.1.args, hh.1.locals, hh.1.code⟩, fun hs => ?_⟩
    have ha4 : Ev (fun k => impl_verify.a4 k p.funcs z hs m.args m.locals m.code (f : Int) p.funcs L (f : Int)) (.inl (⟨(f : Int), 0, 1⟩, [])) := by
      unfold impl_verify.a4
      simp only [impl_in_eq]
      refine Ev.bind Ev.pure ?_
      by_cases c1 : 0 ≤ m.args ∧ m.args ≤ 4
      · refine Ev.cf (by simp; omega) (Ev.bind Ev.pure ?_)
        by_cases c2 : m.args ≤ m.locals ∧ m.locals ≤ 8
        · refine Ev.cf (by simp; omega) (Ev.bind Ev.pure ?_)
          by_cases c3 : 1 ≤ m.code.length ∧ m.code.length ≤ 60
          · exact absurd ⟨c1, c2, c3⟩ hf
          · exact Ev.ct (by simp; omega) Ev.pure
        · exact Ev.ct (by simp; omega) Ev.pure
      · exact Ev.ct (by simp; omega) Ev.pure
    unfold impl_verify.a3
    exact Ev.idx hm (Ev.bind ha4 Ev.pure)

/-- .. in the reference. -/
theorem specFunc {p : GProgram} (ha : Args64 p) {f : Nat} {m : GFunc} (hm : p.funcs[f]? = some m) :
    ∃ o, Ev (fun k => spec_l04Func k p (f : Int)) o ∧ (o.c = 0 ↔ FormOk p m ∧ ∃ h, RunS p m (some h)) := by
  by_cases hf : formB m
  · obtain ⟨f1, f2, f3, f4⟩ := hf
    have ha1 : Ev (fun k => spec_l04Func.a1 k p.funcs ⟨0, 0, 0⟩ m.args m.locals m.code (f : Int)) (.inr (p.funcs, ⟨0, 0, 0⟩, m.args, m.locals, m.code, (f : Int))) := by
      unfold spec_l04Func.a1
      exact Ev.cf (df (by omega)) (Ev.cf (df (by omega)) (Ev.cf (df (by omega)) (Ev.cf (df (by omega)) (Ev.cf (df (by omega)) (Ev.cf (df (by omega)) Ev.pure)))))
    rcases ins_from (p := p) (m := m) with hi | ⟨y, b, hy, hb, hlt⟩
    · have hF : FormOk p m := ⟨f1, f2, ⟨f3, f4⟩, hi⟩
      obtain ⟨rS, hS⟩ := run_ex (goodS p m.code ha) _ _ _ rfl (h0_len _) (h0_inv m.code.length (by omega) (by omega) (by omega))
      obtain ⟨oS, e3, e4⟩ := specHeights hm hF.jumps f3 f4 hS
      refine ⟨oS.2, ?_, ?_⟩
      · unfold spec_l04Func
        exact Ev.idx hm (Ev.bind ha1 (Ev.bind (specInsLoop hm f4 ⟨0, 0, 0⟩ m.args m.locals hi _ 0 rfl (by omega)) (Ev.bind e3 Ev.pure)))
      · cases rS with
        | none =>
          refine ⟨fun h => absurd h e4, fun ⟨_, h, hh⟩ => ?_⟩
          have := run_same hS hh; cases this
        | some h =>
          obtain ⟨rfl, hl⟩ := e4
          exact ⟨fun _ => ⟨hF, h, hS⟩, fun _ => rfl⟩
    · refine ⟨⟨(f : Int), (y : Int), 1⟩, ?_, ?_⟩
      · unfold spec_l04Func
        exact Ev.idx hm (Ev.bind ha1 (Ev.bind (specInsBad hm f4 ⟨0, 0, 0⟩ m.args m.locals hy hb hlt _ 0 rfl (by omega)) Ev.pure))
      · refine ⟨fun h => (by cases h), fun hh => ?_⟩
        have := hh.1.ins b (List.mem_of_getElem? hy); rw [hb] at this; cases this
  · refine ⟨⟨(f : Int), 0, 1⟩, ?_, ⟨fun h => (by cases h), fun hh => absurd ⟨hh.1.args, hh.1.locals, hh.1.code⟩ hf⟩⟩
    have ha1 : Ev (fun k => spec_l04Func.a1 k p.funcs ⟨0, 0, 0⟩ m.args m.locals m.code (f : Int)) (.inl ⟨(f : Int), 0, 1⟩) := by
      unfold spec_l04Func.a1
      by_cases c1 : m.args < 0
      · exact Ev.ct (dt c1) Ev.pure
      refine Ev.cf (df c1) ?_
      by_cases c2 : m.args > 4
      · exact Ev.ct (dt c2) Ev.pure
      refine Ev.cf (df c2) ?_
      by_cases c3 : m.locals < m.args
      · exact Ev.ct (dt c3) Ev.pure
      refine Ev.cf (df c3) ?_
      by_cases c4 : m.locals > 8
      · exact Ev.ct (dt c4) Ev.pure
      refine Ev.cf (df c4) ?_
      by_cases c5 : (m.code.length : Int) < 1
      · exact Ev.ct (dt c5) Ev.pure
      refine Ev.cf (df c5) ?_
      by_cases c6 : (m.code.length : Int) > 60
      · exact Ev.ct (dt c6) Ev.pure
      exact absurd ⟨by omega, by omega, by omega, by omega⟩ hf
    unfold spec_l04Func
    exact Ev.idx hm (Ev.bind ha1 Ev.pure)

end Go.Proofs.Ytdlaplgofgklnaa
