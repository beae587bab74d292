/- WHAT IS PROVED: an abstract walker over the model, what some functions of the program answer, and laws of these answers. Conditions: none. -/
import Derived.Test.YtdlaplgofgklnaaGreatKf7
namespace Go.Proofs.YtdlaplgofgklnaaGreat
open Go.Proofs Go.Proofs.YtdlaplgofgklnaaGreat.L
set_option maxHeartbeats 8000000
set_option linter.unusedSimpArgs false
set_option linter.unusedVariables false
set_option maxRecDepth 100000
set_option linter.defProp false
def spec_InsRight.a1 (k : Nat) (a1 : (List GFunc)) (a2 : GI2) (a3 : Int) : Option ((Bool) ⊕ ((List GFunc) × GI2 × Int)) :=
  cond ((decide (a3 < 0))) (some (.inl (false))) (cond ((decide (a3 ≥ ((a1.length : Int))))) (some (.inl (false))) (some (.inr (a1, a2, a3))))
def spec_InsRight.a3 (k : Nat) (a1 : (List GFunc)) (a2 : GI2) (a3 : Int) (a4 : Int) : Option ((List GFunc) × GI2 × Int × Int × Bool) :=
  cond ((a4 == 2)) (some (a1, a2, a3, a4, true)) (some (a1, a2, a3, a4, (a4 == 3)))
def spec_InsRight.a4 (k : Nat) (a1 : (List GFunc)) (a2 : GI2) (a3 : Int) (a4 : Int) : Option ((List GFunc) × GI2 × Int × Int × Bool) :=
  cond ((a4 == 30)) (some (a1, a2, a3, a4, true)) (some (a1, a2, a3, a4, (a4 == 31)))
def spec_InsRight.a2 (k : Nat) (a1 : (List GFunc)) (a2 : GI2) (a3 : Int) : Option ((Bool) ⊕ (GI2)) :=
  cond ((a2.a == 1)) (some (.inl (true))) ((spec_InsRight.a3 k a1 a2 a3 a2.a).bind fun o3 => cond o3.2.2.2.2 (cond ((decide (o3.2.1.b ≥ 0))) ((idx o3.1 o3.2.2.1).bind fun m1 => some (.inl ((decide (o3.2.1.b < m1.locals))))) (some (.inl (false)))) ((spec_InsRight.a4 k o3.1 o3.2.1 o3.2.2.1 o3.2.2.2.1).bind fun o4 => cond o4.2.2.2.2 (cond ((decide (o4.2.1.b ≥ 0))) ((idx o4.1 o4.2.2.1).bind fun m2 => some (.inl ((decide (o4.2.1.b < ((m2.code.length : Int))))))) (some (.inl (false)))) (cond ((o4.2.2.2.1 == 32)) (cond ((decide (o4.2.1.b ≥ 0))) (some (.inl ((decide (o4.2.1.b < ((o4.1.length : Int))))))) (some (.inl (false)))) (some (.inr (o4.2.1))))))
def spec_InsRight (k : Nat) (p0 : GProgram) (p1 : Int) (p2 : GI2) : Option (Bool) :=
  (spec_InsRight.a1 k p0.funcs p2 p1).bind fun o1 => Sum.elim (fun o1l => some o1l) (fun o1r => (spec_InsRight.a2 k o1r.1 o1r.2.1 o1r.2.2).bind fun o2 => Sum.elim (fun o2l => some o2l) (fun o2r => (spec_OpName k o2r.a).bind fun t3 => cond ((!(t3.toList == ((⟨#[]⟩ : ByteArray)).toList))) (some ((o2r.b == 0))) (some false)) o2) o1
def spec_Puts.a1 (k : Nat) (a1 : GI2) : Option ((Int) ⊕ (GI2)) :=
  (spec_l03Binary a1.a).bind fun t1 => cond t1 (some (.inl (1))) ((spec_l03Unary a1.a).bind fun t2 => cond t2 (some (.inl (1))) (some (.inr (a1))))
def spec_Puts (k : Nat) (p0 : GI2) : Option (Int) :=
  (spec_Puts.a1 k p0).bind fun o1 => Sum.elim (fun o1l => some o1l) (fun o1r => cond ((o1r.a == 4)) (some 2) (cond ((o1r.a == 1)) (some 1) (cond ((o1r.a == 2)) (some 1) (cond ((o1r.a == 32)) (some 1) (cond ((o1r.a == 34)) (some 1) (cond ((o1r.a == 35)) (some 1) (cond ((o1r.a == 37)) (some 1) (some 0)))))))) o1
def spec_Takes.a2 (k : Nat) (a1 : (List GFunc)) (a2 : GI2) : Option ((List GFunc) × GI2 × Bool) :=
  (spec_l03Binary a2.a).bind fun t1 => cond t1 (some (a1, a2, true)) (some (a1, a2, (a2.a == 35)))
def spec_Takes.a1 (k : Nat) (a1 : (List GFunc)) (a2 : GI2) : Option ((Int) ⊕ (GI2)) :=
  (spec_Takes.a2 k a1 a2).bind fun o2 => cond o2.2.2 (some (.inl (2))) (cond ((o2.2.1.a == 36)) (some (.inl (3))) (cond ((o2.2.1.a == 32)) (cond ((decide (o2.2.1.b < 0))) (some (.inl (0))) (cond ((decide (o2.2.1.b ≥ ((o2.1.length : Int))))) (some (.inl (0))) ((idx o2.1 o2.2.1.b).bind fun m2 => some (.inl (m2.args))))) ((spec_l03Unary o2.2.1.a).bind fun t3 => cond t3 (some (.inl (1))) (some (.inr (o2.2.1))))))
def spec_Takes (k : Nat) (p0 : GProgram) (p1 : GI2) : Option (Int) :=
  (spec_Takes.a1 k p0.funcs p1).bind fun o1 => Sum.elim (fun o1l => some o1l) (fun o1r => cond ((o1r.a == 3)) (some 1) (cond ((o1r.a == 4)) (some 1) (cond ((o1r.a == 5)) (some 1) (cond ((o1r.a == 31)) (some 1) (cond ((o1r.a == 33)) (some 1) (cond ((o1r.a == 34)) (some 1) (cond ((o1r.a == 37)) (some 1) (cond ((o1r.a == 38)) (some 1) (some 0))))))))) o1
def spec_l01Src_edge (k : Nat) (p0 : Gl01Src) : Option (Int × Gl01Src) :=
  (spec_l01Src_n k p0 14).bind fun t1 => (idx ([0, 1, (-1), 2, 1000, 1001, 2147483648, 2147483647, (-2147483648), 4611686018427387904, 9223372036854775807, (-9223372036854775808), 1000000, 1000001]) t1.1).bind fun m2 => some (m2, t1.2)
def spec_l01Src_one (k : Nat) (p0 : Gl01Src) (p1 : Int) : Option (Bool × Gl01Src) :=
  (spec_l01Src_n k p0 p1).bind fun t1 => some ((t1.1 == 0), t1.2)
def spec_l03Gen_local (k : Nat) (p0 : Gl03Gen) : Option (Int × Gl03Gen) :=
  (spec_l01Src_n k p0.s p0.locals).bind fun t1 => some (t1.1, (⟨t1.2, p0.args, p0.locals, p0.code, p0.most⟩ : Gl03Gen))
def spec_l06CopyFrame (p0 : GFrame) : Option (GFrame) :=
  (spec_l06Nums p0.locals).bind fun t1 => (spec_l06Nums p0.stack).bind fun t2 => some ((⟨p0.func0, p0.pc, t1, t2⟩ : GFrame))
def spec_l06SameHeap.l1 : Nat → (List (List Int)) → (List (List Int)) → Int → Option ((Bool) ⊕ (Unit))
  | 0, _, _, _ => none
  | k + 1, a1, a2, a3 => cond ((decide (a3 < ((a1.length : Int))))) ((idx a1 a3).bind fun m1 => (idx a2 a3).bind fun m2 => (spec_l06SameNums k m1 m2).bind fun t3 => cond ((!t3)) (some (.inl (false))) (spec_l06SameHeap.l1 k a1 a2 ((IntKind.i64.wrap (a3 + 1))))) (some (.inr ()))
def spec_l06SameHeap (k : Nat) (p0 : (List (List Int))) (p1 : (List (List Int))) : Option (Bool) :=
  cond ((((p0.length : Int)) != ((p1.length : Int)))) (some false) ((spec_l06SameHeap.l1 k p0 p1 0).bind fun o1 => Sum.elim (fun o1l => some o1l) (fun o1r => some true) o1)
theorem gr12 : (∀ {k : Nat} {p0 : GProgram} {p1 : Int} {p2 : GI2} {r : Bool}, spec_InsRight k p0 p1 p2 = some r → Con Tryz.prog 136 [.agg [.d (.row .bor 3 (Rw (GFunc.cells .bor) p0.funcs))], V.int p1, .agg [V.int p2.a, V.int p2.b]] [] (V.bool r) []) ∧
  (∀ {k : Nat} {p0 : GI2} {r : Int}, spec_Puts k p0 = some r → Con Tryz.prog 89 [.agg [V.int p0.a, V.int p0.b]] [] (V.int r) []) ∧
  (∀ {k : Nat} {p0 : GProgram} {p1 : GI2} {r : Int}, spec_Takes k p0 p1 = some r → Con Tryz.prog 85 [.agg [.d (.row .bor 3 (Rw (GFunc.cells .bor) p0.funcs))], .agg [V.int p1.a, V.int p1.b]] [] (V.int r) []) ∧
  (∀ {k : Nat} {p0 : Gl01Src} {r : Int × Gl01Src}, spec_l01Src_edge k p0 = some r → Con Tryz.prog 146 [.mp 0 4 0 0] [.o 4 [[.d (.row .bor 1 (Rw (cI .u8) p0.b)), V.int p0.at0, .d (.p (.int .u64 p0.mix)), V.int p0.size]]] (V.int r.1) [.o 4 [[.d (.row .bor 1 (Rw (cI .u8) r.2.b)), V.int r.2.at0, .d (.p (.int .u64 r.2.mix)), V.int r.2.size]]]) ∧
  (∀ {k : Nat} {p0 : Gl01Src} {p1 : Int} {r : Bool × Gl01Src}, spec_l01Src_one k p0 p1 = some r → Con Tryz.prog 103 [.mp 0 4 0 0, V.int p1] [.o 4 [[.d (.row .bor 1 (Rw (cI .u8) p0.b)), V.int p0.at0, .d (.p (.int .u64 p0.mix)), V.int p0.size]]] (V.bool r.1) [.o 4 [[.d (.row .bor 1 (Rw (cI .u8) r.2.b)), V.int r.2.at0, .d (.p (.int .u64 r.2.mix)), V.int r.2.size]]]) ∧
  (∀ {k : Nat} {p0 : Gl03Gen} {r : Int × Gl03Gen}, spec_l03Gen_local k p0 = some r → Con Tryz.prog 133 [.mp 0 5 0 0] [.o 5 [[.mp 1 4 0 0, .sl 2 1 0 p0.args.length, V.int p0.locals, .d (.row .own 2 (Rw GI2.cells p0.code)), V.int p0.most]], .o 4 [[.d (.row .bor 1 (Rw (cI .u8) p0.s.b)), V.int p0.s.at0, .d (.p (.int .u64 p0.s.mix)), V.int p0.s.size]], .o 1 (dd (Rw (cI .i64) p0.args))] (V.int r.1) [.o 5 [[.mp 1 4 0 0, .sl 2 1 0 p0.args.length, V.int r.2.locals, .d (.row .own 2 (Rw GI2.cells r.2.code)), V.int r.2.most]], .o 4 [[.d (.row .bor 1 (Rw (cI .u8) r.2.s.b)), V.int r.2.s.at0, .d (.p (.int .u64 r.2.s.mix)), V.int r.2.s.size]], .o 1 (dd (Rw (cI .i64) r.2.args))]) ∧
  (∀ {p0 : GFrame} {r : GFrame}, spec_l06CopyFrame p0 = some r → Con Tryz.prog 84 [.agg [V.int p0.func0, V.int p0.pc, .d (.row .bor 1 (Rw (cI .i64) p0.locals)), .d (.row .bor 1 (Rw (cI .i64) p0.stack))]] [] (.agg [V.int r.func0, V.int r.pc, .d (.row .own 1 (Rw (cI .i64) r.locals)), .d (.row .own 1 (Rw (cI .i64) r.stack))]) []) ∧
  (∀ {k : Nat} {p0 : (List (List Int))} {p1 : (List (List Int))} {r : Bool}, spec_l06SameHeap k p0 p1 = some r → Con Tryz.prog 37 [.d (.row .bor 1 (Rw (cL .bor 1 (cI .i64)) p0)), .d (.row .bor 1 (Rw (cL .bor 1 (cI .i64)) p1))] [] (V.bool r) []) := by
  refine ⟨?_, ?_, ?_, ?_, ?_, ?_, ?_, ?_⟩
  all_goals intros
  all_goals rename_i h
  all_goals first
    | (with_reducible refine isf 136 ?_
       refine csw Tryz.func136 Tryz.call136 (by simp [Tryz.ntmps136]) (h := ?_)
       refine mkf 136 fun hF => ?_
       rw [Tryz.ntmps136, Tryz.results136]
       unfold spec_InsRight at h)
    | (with_reducible refine isf 89 ?_
       refine csw Tryz.func89 Tryz.call89 (by simp [Tryz.ntmps89]) (h := ?_)
       refine mkf 89 fun hF => ?_
       rw [Tryz.ntmps89, Tryz.results89]
       unfold spec_Puts at h)
    | (with_reducible refine isf 85 ?_
       refine csw Tryz.func85 Tryz.call85 (by simp [Tryz.ntmps85]) (h := ?_)
       refine mkf 85 fun hF => ?_
       rw [Tryz.ntmps85, Tryz.results85]
       unfold spec_Takes at h)
    | (with_reducible refine isf 146 ?_
       refine csw Tryz.func146 Tryz.call146 (by simp [Tryz.ntmps146]) (h := ?_)
       refine mkf 146 fun hF => ?_
       rw [Tryz.ntmps146, Tryz.results146]
       unfold spec_l01Src_edge at h)
    | (with_reducible refine isf 103 ?_
       refine csw Tryz.func103 Tryz.call103 (by simp [Tryz.ntmps103]) (h := ?_)
       refine mkf 103 fun hF => ?_
       rw [Tryz.ntmps103, Tryz.results103]
       unfold spec_l01Src_one at h)
    | (with_reducible refine isf 133 ?_
       refine csw Tryz.func133 Tryz.call133 (by simp [Tryz.ntmps133]) (h := ?_)
       refine mkf 133 fun hF => ?_
       rw [Tryz.ntmps133, Tryz.results133]
       unfold spec_l03Gen_local at h)
    | (with_reducible refine isf 84 ?_
       refine csw Tryz.func84 Tryz.call84 (by simp [Tryz.ntmps84]) (h := ?_)
       refine mkf 84 fun hF => ?_
       rw [Tryz.ntmps84, Tryz.results84]
       unfold spec_l06CopyFrame at h)
    | (with_reducible refine isf 37 ?_
       refine csw Tryz.func37 Tryz.call37 (by simp [Tryz.ntmps37]) (h := ?_)
       refine mkf 37 fun hF => ?_
       rw [Tryz.ntmps37, Tryz.results37]
       unfold spec_l06SameHeap at h)
  all_goals (replace h := Yes.mk h; simp only [entryS, entryO, Nat.reduceAdd, List.length_nil, List.length_cons])
  repeat' (first
 | (with_reducible (first | refine sw_reg ?_ | refine sw_ret ?_ | refine sw_skip ?_ | refine sw_block ?_ | refine sw_exit ?_ | refine seqQ_normal ?_ | refine blockQ_normal ?_ | refine blockQ_ret ?_ | refine blockQ_this ?_ | refine blockQ_other (by decide) ?_ | refine regW_nil ?_ | refine sw_draw mixed ?_ | refine retQ_ret ?_ | refine retQ_normal ?_))
 | (with_reducible refine regD_nil ?_
    refine ⟨by kernel_rfl, ?_⟩)
 | (revert h; (first | ((with_reducible refine idx_elim ?_); intro m hm1 hm2 hm3 h; (try (simp only [Int.reduceToNat] at hm3)); (try (revert hm3; (with_reducible apply same_elim); (focus (with_reducible assumption)); rintro rfl)); (try (simp only [List.length_set, List.length_cons, List.length_nil, List.length_replicate, Nat.reduceAdd, Int.cast_ofNat_Int, Nat.zero_add, List.length_append] at hm2))) | (with_reducible refine sidx_elim ?_; intro m hm1 hm3 h) | (with_reducible refine gd_elim ?_; intro hg h; try (have hg2 := hg.2; have hg := hg.1; (try (simp only [Nat.reduceLeDiff] at hg2)); (try (revert hg2; (with_reducible refine toNat_elim hg ?_); intro hg2 hg4)); try (have hg3 := hg2.2; have hg2 := hg2.1; (try (simp only [Nat.reduceLeDiff] at hg3))))) | (with_reducible refine condt_elim ?_ ?_; (focus (with_reducible assumption)); intro h) | (with_reducible refine condf_elim ?_ ?_; (focus (with_reducible assumption)); intro h)))
 | ((with_reducible first | refine pnR ?_ | refine pnE ?_ | refine pmR ?_ | refine pmE ?_)
    obtain rfl := h.get
    have h := hK
    clear hK
    (try (simp only [Sum.elim_inl, Sum.elim_inr] at h)))
 | ((with_reducible refine fi 136 ?_ ?_); (focus (with_reducible assumption))
    first
    | (with_reducible refine here_join (a := (.seq (.region 9 _ _) _)) (b := (.cond (.tmp 37) _ _)) ?_
       revert h
       with_reducible refine bind_elimY ?_
       intro o4 h hK
       unfold spec_InsRight.a4 at h
       refine sw_join (ι := (List GFunc) × GI2 × Int × Int × Bool) 40000000 (fun x => [(.s 1, some (.v (V.int x.2.2.1))), (.s 3, some (.v (.mp 0 1 0 0))), (.s 5, some (.v (.mp 64 2 0 0))), (.s 17, some (.v (V.int x.2.2.2.1))), (.s 37, some (.v (V.bool x.2.2.2.2))), (.r 0, some (.o 1 [[.d (.row .bor 3 (Rw (GFunc.cells .bor) x.1))]])), (.r 64, some (.o 2 [[V.int x.2.1.a, V.int x.2.1.b]]))]) (fun x => Yes (some (x)) o4) ?_ ?_
       rotate_left
       rintro ⟨b1, b2, b3, b4, b5⟩ h
       obtain rfl := h.get
       have h := hK
       clear hK
       (try (simp only [Sum.elim_inl, Sum.elim_inr] at h))
       refine sw_gh ?_
       refine gh_sw ?_)
    | (with_reducible refine here_join (a := (.seq (.region 6 _ _) _)) (b := (.cond (.tmp 20) _ _)) ?_
       revert h
       with_reducible refine bind_elimY ?_
       intro o3 h hK
       unfold spec_InsRight.a3 at h
       refine sw_join (ι := (List GFunc) × GI2 × Int × Int × Bool) 30000000 (fun x => [(.s 1, some (.v (V.int x.2.2.1))), (.s 3, some (.v (.mp 0 1 0 0))), (.s 5, some (.v (.mp 64 2 0 0))), (.s 17, some (.v (V.int x.2.2.2.1))), (.s 20, some (.v (V.bool x.2.2.2.2))), (.r 0, some (.o 1 [[.d (.row .bor 3 (Rw (GFunc.cells .bor) x.1))]])), (.r 64, some (.o 2 [[V.int x.2.1.a, V.int x.2.1.b]]))]) (fun x => Yes (some (x)) o3) ?_ ?_
       rotate_left
       rintro ⟨b1, b2, b3, b4, b5⟩ h
       obtain rfl := h.get
       have h := hK
       clear hK
       (try (simp only [Sum.elim_inl, Sum.elim_inr] at h))
       refine sw_gh ?_
       refine gh_sw ?_)
    | (with_reducible refine here_join (a := (.seq (.region 3 _ _) _)) (b := (.seq (.region 14 _ _) _)) ?_
       revert h
       with_reducible refine bind_elimY ?_
       intro o2 h hK
       unfold spec_InsRight.a2 at h
       refine sw_join (ι := GI2) 20000000 (fun x => [(.s 5, some (.v (.mp 64 2 0 0))), (.r 64, some (.o 2 [[V.int x.a, V.int x.b]]))]) (fun x => Yes (some (.inr x)) o2) ?_ ?_
       rotate_left
       rintro b1 h
       obtain rfl := h.get
       have h := hK
       clear hK
       (try (simp only [Sum.elim_inl, Sum.elim_inr] at h))
       refine sw_gh ?_
       refine gh_sw ?_)
    | (with_reducible refine here_join (a := (.seq (.region 1 _ _) _)) (b := (.seq (.seq (.region 3 _ _) _) _)) ?_
       revert h
       with_reducible refine bind_elimY ?_
       intro o1 h hK
       unfold spec_InsRight.a1 at h
       refine sw_join (ι := (List GFunc) × GI2 × Int) 10000000 (fun x => [(.s 1, some (.v (V.int x.2.2))), (.s 3, some (.v (.mp 0 1 0 0))), (.s 5, some (.v (.mp 64 2 0 0))), (.r 0, some (.o 1 [[.d (.row .bor 3 (Rw (GFunc.cells .bor) x.1))]])), (.r 64, some (.o 2 [[V.int x.2.1.a, V.int x.2.1.b]]))]) (fun x => Yes (some (.inr x)) o1) ?_ ?_
       rotate_left
       rintro ⟨b1, b2, b3⟩ h
       obtain rfl := h.get
       have h := hK
       clear hK
       (try (simp only [Sum.elim_inl, Sum.elim_inr] at h))
       refine sw_gh ?_
       refine gh_sw ?_))
 | ((with_reducible refine fi 89 ?_ ?_); (focus (with_reducible assumption))
    first
    | (with_reducible refine here_join (a := (.seq (.region 1 _ _) _)) (b := (.seq (.seq (.region 3 _ _) _) _)) ?_
       revert h
       with_reducible refine bind_elimY ?_
       intro o1 h hK
       unfold spec_Puts.a1 at h
       refine sw_join (ι := GI2) 10000000 (fun x => [(.s 1, some (.v (.mp 0 2 0 0))), (.r 0, some (.o 2 [[V.int x.a, V.int x.b]]))]) (fun x => Yes (some (.inr x)) o1) ?_ ?_
       rotate_left
       rintro b1 h
       obtain rfl := h.get
       have h := hK
       clear hK
       (try (simp only [Sum.elim_inl, Sum.elim_inr] at h))
       refine sw_gh ?_
       refine gh_sw ?_))
 | ((with_reducible refine fi 85 ?_ ?_); (focus (with_reducible assumption))
    first
    | (with_reducible refine here_join (a := (.region 1 _ _)) (b := (.cond (.tmp 5) _ _)) ?_
       revert h
       with_reducible refine bind_elimY ?_
       intro o2 h hK
       unfold spec_Takes.a2 at h
       refine sw_join (ι := (List GFunc) × GI2 × Bool) 20000000 (fun x => [(.s 2, some (.v (.mp 0 1 0 0))), (.s 3, some (.v (.mp 64 2 0 0))), (.s 5, some (.v (V.bool x.2.2))), (.r 0, some (.o 1 [[.d (.row .bor 3 (Rw (GFunc.cells .bor) x.1))]])), (.r 64, some (.o 2 [[V.int x.2.1.a, V.int x.2.1.b]]))]) (fun x => Yes (some (x)) o2) ?_ ?_
       rotate_left
       rintro ⟨b1, b2, b3⟩ h
       obtain rfl := h.get
       have h := hK
       clear hK
       (try (simp only [Sum.elim_inl, Sum.elim_inr] at h))
       refine sw_gh ?_
       refine gh_sw ?_)
    | (with_reducible refine here_join (a := (.block 0 _)) (b := (.seq (.seq (.region 11 _ _) _) _)) ?_
       revert h
       with_reducible refine bind_elimY ?_
       intro o1 h hK
       unfold spec_Takes.a1 at h
       refine sw_join (ι := GI2) 10000000 (fun x => [(.s 3, some (.v (.mp 64 2 0 0))), (.r 64, some (.o 2 [[V.int x.a, V.int x.b]]))]) (fun x => Yes (some (.inr x)) o1) ?_ ?_
       rotate_left
       rintro b1 h
       obtain rfl := h.get
       have h := hK
       clear hK
       (try (simp only [Sum.elim_inl, Sum.elim_inr] at h))
       refine sw_gh ?_
       refine gh_sw ?_))
 | ((with_reducible refine fi 37 ?_ ?_); (focus (with_reducible assumption))
    first
    | (with_reducible refine here_loop (c := (.seq (.seq (.region 4 _ _) _) _)) ?_
       revert h
       with_reducible refine bind_elimY ?_
       intro o1 h hK
       refine lpA (β := (List (List Int)) × (List (List Int)) × Int) 10000000 (fun x => [(.s 0, some (.v (.d (.row .bor 1 (Rw (cL .bor 1 (cI .i64)) x.2.1))))), (.s 1, some (.v (.d (.row .bor 1 (Rw (cL .bor 1 (cI .i64)) x.2.2.1))))), (.s 5, some (.v (V.int x.2.2.2)))]) (fun x => Yes (spec_l06SameHeap.l1 x.1 x.2.1 x.2.2.1 x.2.2.2) o1) (_, _, _, _) h ?_
       rintro ⟨_ | k, a1, a2, a3⟩ h
       · simp only [spec_l06SameHeap.l1] at h; exact h.none
       simp only [spec_l06SameHeap.l1] at h
   ))
 | (with_reducible refine here_next ?_
    first | refine nxA (_, _, _, _) h)
 | (with_reducible refine here_meet ?_
    first | refine mtA _ h | refine mtA (_, _, _) h | refine mtA (_, _, _, _, _) h)
 | with_reducible refine sw_seq ?_
 | with_reducible refine seqQ_ret ?_
 | with_reducible refine seqQ_exit ?_
 | ((with_reducible refine wp_ite ?_ ?_)
    all_goals (intro hc; (try (simp only [Bool.not_eq_true, Bool.not_eq_false] at hc)); simp only [hc]))
 | (with_reducible refine rskip (hs := ?_) (h2 := ?_)
    · simp only [lkd, lkb, reduceCtorEq, Nat.reduceEqDiff]; done)
 | (with_reducible refine ryes (hs := ?_) (h := ?_)
    · simp only [lkd, lkb, reduceCtorEq, Nat.reduceEqDiff]; done)
 | (with_reducible refine rno (hs := ?_) (h := ?_)
    · simp only [lkd, lkb, reduceCtorEq, Nat.reduceEqDiff, Bool.not_true, Bool.not_false]; done)
 | (with_reducible apply regW_guardN
    · simp only [dstOk, Nat.reduceLT]
    · rfl
    · simp only [lkd, lkb, reduceCtorEq, Nat.reduceEqDiff]; rfl
    all_goals (intro hc; (try (simp only [Bool.not_true, Bool.not_false] at hc))))
 | (with_reducible apply sw_cond
    · simp only [lkd, lkb, reduceCtorEq, Nat.reduceEqDiff]; rfl
    all_goals (intro hc; try (cases hc; done)))
 | ((first
     | ((with_reducible refine gh_ret ?_)
        revert h
        with_reducible refine some_elim ?_
        rintro rfl)
     | (with_reducible refine here_call ?_
        revert h
        with_reducible refine bind_elim ?_
        intro t ht h
        (first
          | ((first
              | ((with_reducible refine here_call (f := 148) ?_); refine call_dataE (c_spec_OpName ht) ?_ rfl ?_)
              | ((with_reducible refine here_call (f := 123) ?_); refine call_dataE (c_spec_l03Binary ht) ?_ rfl ?_)
              | ((with_reducible refine here_call (f := 124) ?_); refine call_dataE (c_spec_l03Unary ht) ?_ rfl ?_)
              | ((with_reducible refine here_call (f := 83) ?_); refine call_dataE (c_spec_l06Nums ht) ?_ rfl ?_)
              | ((with_reducible refine here_call (f := 38) ?_); refine call_dataE (c_spec_l06SameNums ht) ?_ rfl ?_))
             · first | rfl | (simp; done))
          | ((with_reducible refine here_call (f := 98) ?_); refine call_obj [0] (c_spec_l01Src_n ht) (by decide) ?_ ?_
             · first | exact .inl rfl | (refine .inr ⟨?_, ?_⟩; (focus (first | rfl | (simp only [nbd, nbb, Gl01Src_nb, GI2_nb, GFunc_nb, GProgram_nb, GFrame_nb, GerrorAddressString_nb, LcIi64_nb]; done))); (focus (simp [C.nb, V.nbLL, V.nbL, V.nb, D.nb]; done)))
             simp only [obd, hyb, hyd, Gl01Src_lend, GI2_lend, GFunc_lend, GProgram_lend, GFrame_lend, GerrorAddressString_lend, LcIi64_lend, lkd, lkb, reduceCtorEq, Nat.reduceEqDiff, Prog.wp, Prog.wp_bind, Prog.bind, Prog.ofO, List.take_of_length_le, *])
          | ((with_reducible refine here_call (f := 98) ?_); refine call_obj [1] (c_spec_l01Src_n ht) (by decide) ?_ ?_
             · first | exact .inl rfl | (refine .inr ⟨?_, ?_⟩; (focus (first | rfl | (simp only [nbd, nbb, Gl01Src_nb, GI2_nb, GFunc_nb, GProgram_nb, GFrame_nb, GerrorAddressString_nb, LcIi64_nb]; done))); (focus (simp [C.nb, V.nbLL, V.nbL, V.nb, D.nb]; done)))
             simp only [obd, hyb, hyd, Gl01Src_lend, GI2_lend, GFunc_lend, GProgram_lend, GFrame_lend, GerrorAddressString_lend, LcIi64_lend, lkd, lkb, reduceCtorEq, Nat.reduceEqDiff, Prog.wp, Prog.wp_bind, Prog.bind, Prog.ofO, List.take_of_length_le, *])))
     | (with_reducible (first | refine ropD (h := ?_) | refine ropW (h := ?_))
        intro k hk)
     | skip)
    simp only [bn, lkb, evb, evd, Value.oneCell', setSeg, reduceCtorEq, Nat.reduceAdd, Nat.reduceMul, Nat.reduceSub, Nat.reduceLT, Nat.reduceLeDiff, Nat.reduceEqDiff, Int.reduceNeg, Int.reduceToNat, ty2, ty3, ty4, ty5, ty9, ty12, ty14, ty22, ty23, ty25, ty27, ty28, ty56, ty85, ty92, ty94, ty98, ty138, ty140, ty142, ty145, GFrame.cells, GFunc.cells, GI2.cells, GProgram.cells, GerrorAddressString.cells, Gl01Src.cells, cI, cB, cS, cL, Gl01Src_e, GI2_e, GFunc_e, GProgram_e, GFrame_e, GerrorAddressString_e, LcIi64_e, buildP, buildSliceP, putParts, structPlaces, chunks, List.replicate, List.flatten_nil, List.flatten_cons, Option.bind_some, bb, nilEqP, ne_eq, not_false_eq_true, not_true_eq_false, *]
    try (refine hk.use _ _ _ _ ?_; clear hk k))
 | fail)
  all_goals (try rfl)
  all_goals (try (simp; done))
  all_goals (try (simp_all; done))
def c_spec_InsRight := @And.left _ _ gr12
def c_spec_Puts := @And.left _ _ (@And.right _ _ gr12)
def c_spec_Takes := @And.left _ _ (@And.right _ _ (@And.right _ _ gr12))
def c_spec_l01Src_edge := @And.left _ _ (@And.right _ _ (@And.right _ _ (@And.right _ _ gr12)))
def c_spec_l01Src_one := @And.left _ _ (@And.right _ _ (@And.right _ _ (@And.right _ _ (@And.right _ _ gr12))))
def c_spec_l03Gen_local := @And.left _ _ (@And.right _ _ (@And.right _ _ (@And.right _ _ (@And.right _ _ (@And.right _ _ gr12)))))
def c_spec_l06CopyFrame := @And.left _ _ (@And.right _ _ (@And.right _ _ (@And.right _ _ (@And.right _ _ (@And.right _ _ (@And.right _ _ gr12))))))
def c_spec_l06SameHeap := (@And.right _ _ (@And.right _ _ (@And.right _ _ (@And.right _ _ (@And.right _ _ (@And.right _ _ (@And.right _ _ gr12)))))))
end Go.Proofs.YtdlaplgofgklnaaGreat