/- WHAT IS PROVED: an abstract walker over the model, what some functions of the program answer, and laws of these answers. Conditions: none. -/
import Derived.Test.YtdlaplgofgklnaaGreatKs6
namespace Go.Proofs.YtdlaplgofgklnaaGreat
open Go.Proofs Go.Proofs.YtdlaplgofgklnaaGreat.L
set_option maxHeartbeats 8000000
set_option linter.unusedSimpArgs false
set_option linter.unusedVariables false
set_option maxRecDepth 100000
set_option linter.defProp false
def spec_InsRight.a1 (k : Nat) (a1 : (List GFunc)) (a2 : GI2) (a3 : Int) : Option ((Bool) ⊕ ((List GFunc) × GI2 × Int)) :=
  cond ((decide (a3 < 0))) (some (.inl (false))) (cond ((decide (a3 ≥ ((a1.length : Int))))) (some (.inl (false))) (some (.inr (a1, a2, a3))))
def spec_InsRight.a3 (k : Nat) (a1 : (List GFunc)) (a2 : GI2) (a3 : Int) (a4 : Int) : Option ((List GFunc) × GI2 × Int × Int × Bool) :=
  cond ((a4 == 2)) (some (a1, a2, a3, a4, true)) (some (a1, a2, a3, a4, (a4 == 3)))
def spec_InsRight.a4 (k : Nat) (a1 : (List GFunc)) (a2 : GI2) (a3 : Int) (a4 : Int) : Option ((List GFunc) × GI2 × Int × Int × Bool) :=
  cond ((a4 == 30)) (some (a1, a2, a3, a4, true)) (some (a1, a2, a3, a4, (a4 == 31)))
def spec_InsRight.a2 (k : Nat) (a1 : (List GFunc)) (a2 : GI2) (a3 : Int) : Option ((Bool) ⊕ (GI2)) :=
  cond ((a2.a == 1)) (some (.inl (true))) ((spec_InsRight.a3 k a1 a2 a3 a2.a).bind fun o3 => cond o3.2.2.2.2 (cond ((decide (o3.2.1.b ≥ 0))) ((idx o3.1 o3.2.2.1).bind fun m1 => some (.inl ((decide (o3.2.1.b < m1.locals))))) (some (.inl (false)))) ((spec_InsRight.a4 k o3.1 o3.2.1 o3.2.2.1 o3.2.2.2.1).bind fun o4 => cond o4.2.2.2.2 (cond ((decide (o4.2.1.b ≥ 0))) ((idx o4.1 o4.2.2.1).bind fun m2 => some (.inl ((decide (o4.2.1.b < ((m2.code.length : Int))))))) (some (.inl (false)))) (cond ((o4.2.2.2.1 == 32)) (cond ((decide (o4.2.1.b ≥ 0))) (some (.inl ((decide (o4.2.1.b < ((o4.1.length : Int))))))) (some (.inl (false)))) (some (.inr (o4.2.1))))))
def spec_InsRight (k : Nat) (p0 : GProgram) (p1 : Int) (p2 : GI2) : Option (Bool) :=
  (spec_InsRight.a1 k p0.funcs p2 p1).bind fun o1 => Sum.elim (fun o1l => some o1l) (fun o1r => (spec_InsRight.a2 k o1r.1 o1r.2.1 o1r.2.2).bind fun o2 => Sum.elim (fun o2l => some o2l) (fun o2r => (spec_OpName k o2r.a).bind fun t3 => cond ((!(t3.toList == ((⟨#[]⟩ : ByteArray)).toList))) (some ((o2r.b == 0))) (some false)) o2) o1
def spec_Puts.a1 (k : Nat) (a1 : GI2) : Option ((Int) ⊕ (GI2)) :=
  (spec_l03Binary a1.a).bind fun t1 => cond t1 (some (.inl (1))) ((spec_l03Unary a1.a).bind fun t2 => cond t2 (some (.inl (1))) (some (.inr (a1))))
def spec_Puts (k : Nat) (p0 : GI2) : Option (Int) :=
  (spec_Puts.a1 k p0).bind fun o1 => Sum.elim (fun o1l => some o1l) (fun o1r => cond ((o1r.a == 4)) (some 2) (cond ((o1r.a == 1)) (some 1) (cond ((o1r.a == 2)) (some 1) (cond ((o1r.a == 32)) (some 1) (cond ((o1r.a == 34)) (some 1) (cond ((o1r.a == 35)) (some 1) (cond ((o1r.a == 37)) (some 1) (some 0)))))))) o1
def spec_Takes.a2 (k : Nat) (a1 : (List GFunc)) (a2 : GI2) : Option ((List GFunc) × GI2 × Bool) :=
  (spec_l03Binary a2.a).bind fun t1 => cond t1 (some (a1, a2, true)) (some (a1, a2, (a2.a == 35)))
def spec_Takes.a1 (k : Nat) (a1 : (List GFunc)) (a2 : GI2) : Option ((Int) ⊕ (GI2)) :=
  (spec_Takes.a2 k a1 a2).bind fun o2 => cond o2.2.2 (some (.inl (2))) (cond ((o2.2.1.a == 36)) (some (.inl (3))) (cond ((o2.2.1.a == 32)) (cond ((decide (o2.2.1.b < 0))) (some (.inl (0))) (cond ((decide (o2.2.1.b ≥ ((o2.1.length : Int))))) (some (.inl (0))) ((idx o2.1 o2.2.1.b).bind fun m2 => some (.inl (m2.args))))) ((spec_l03Unary o2.2.1.a).bind fun t3 => cond t3 (some (.inl (1))) (some (.inr (o2.2.1))))))
def spec_Takes (k : Nat) (p0 : GProgram) (p1 : GI2) : Option (Int) :=
  (spec_Takes.a1 k p0.funcs p1).bind fun o1 => Sum.elim (fun o1l => some o1l) (fun o1r => cond ((o1r.a == 3)) (some 1) (cond ((o1r.a == 4)) (some 1) (cond ((o1r.a == 5)) (some 1) (cond ((o1r.a == 31)) (some 1) (cond ((o1r.a == 33)) (some 1) (cond ((o1r.a == 34)) (some 1) (cond ((o1r.a == 37)) (some 1) (cond ((o1r.a == 38)) (some 1) (some 0))))))))) o1
def spec_l06CopyFrame (p0 : GFrame) : Option (GFrame) :=
  (spec_l06Nums p0.locals).bind fun t1 => (spec_l06Nums p0.stack).bind fun t2 => some ((⟨p0.func0, p0.pc, t1, t2⟩ : GFrame))
def laws_eqFrame (k : Nat) (p0 : GFrame) (p1 : GFrame) : Option (Bool) :=
  cond ((p0.func0 != p1.func0)) (some false) (cond ((p0.pc != p1.pc)) (some false) ((laws_eqInt64S k p0.locals p1.locals).bind fun t1 => cond ((!t1)) (some false) ((laws_eqInt64S k p0.stack p1.stack).bind fun t2 => cond ((!t2)) (some false) (some true))))
def laws_eqInsS.l1 : Nat → (List GI2) → (List GI2) → Int → Option ((Bool) ⊕ (Unit))
  | 0, _, _, _ => none
  | k + 1, a1, a2, a3 => cond ((decide (a3 < ((a1.length : Int))))) ((idx a1 a3).bind fun m1 => (idx a2 a3).bind fun m2 => (laws_eqIns m1 m2).bind fun t3 => cond ((!t3)) (some (.inl (false))) (laws_eqInsS.l1 k a1 a2 ((IntKind.i64.wrap (a3 + 1))))) (some (.inr ()))
def laws_eqInsS (k : Nat) (p0 : (List GI2)) (p1 : (List GI2)) : Option (Bool) :=
  cond ((((p0.length : Int)) != ((p1.length : Int)))) (some false) ((laws_eqInsS.l1 k p0 p1 0).bind fun o1 => Sum.elim (fun o1l => some o1l) (fun o1r => some true) o1)
def laws_eqInt64SS.l1 : Nat → (List (List Int)) → (List (List Int)) → Int → Option ((Bool) ⊕ (Unit))
  | 0, _, _, _ => none
  | k + 1, a1, a2, a3 => cond ((decide (a3 < ((a1.length : Int))))) ((idx a1 a3).bind fun m1 => (idx a2 a3).bind fun m2 => (laws_eqInt64S k m1 m2).bind fun t3 => cond ((!t3)) (some (.inl (false))) (laws_eqInt64SS.l1 k a1 a2 ((IntKind.i64.wrap (a3 + 1))))) (some (.inr ()))
def laws_eqInt64SS (k : Nat) (p0 : (List (List Int))) (p1 : (List (List Int))) : Option (Bool) :=
  cond ((((p0.length : Int)) != ((p1.length : Int)))) (some false) ((laws_eqInt64SS.l1 k p0 p1 0).bind fun o1 => Sum.elim (fun o1l => some o1l) (fun o1r => some true) o1)
theorem gs13 : (∀ {k : Nat} {p0 : GProgram} {p1 : Int} {p2 : GI2} {r : Bool}, spec_InsRight k p0 p1 p2 = some r → Con Tryz.prog 136 [.agg [.d (.row .bor 3 (Rw (GFunc.cells .bor) p0.funcs))], V.int p1, .agg [V.int p2.a, V.int p2.b]] [] (V.bool r) []) ∧
  (∀ {k : Nat} {p0 : GI2} {r : Int}, spec_Puts k p0 = some r → Con Tryz.prog 89 [.agg [V.int p0.a, V.int p0.b]] [] (V.int r) []) ∧
  (∀ {k : Nat} {p0 : GProgram} {p1 : GI2} {r : Int}, spec_Takes k p0 p1 = some r → Con Tryz.prog 85 [.agg [.d (.row .bor 3 (Rw (GFunc.cells .bor) p0.funcs))], .agg [V.int p1.a, V.int p1.b]] [] (V.int r) []) ∧
  (∀ {p0 : GFrame} {r : GFrame}, spec_l06CopyFrame p0 = some r → Con Tryz.prog 84 [.agg [V.int p0.func0, V.int p0.pc, .d (.row .bor 1 (Rw (cI .i64) p0.locals)), .d (.row .bor 1 (Rw (cI .i64) p0.stack))]] [] (.agg [V.int r.func0, V.int r.pc, .d (.row .own 1 (Rw (cI .i64) r.locals)), .d (.row .own 1 (Rw (cI .i64) r.stack))]) []) ∧
  (∀ {k : Nat} {p0 : GFrame} {p1 : GFrame} {r : Bool}, laws_eqFrame k p0 p1 = some r → Con Tryz.prog 95 [.agg [V.int p0.func0, V.int p0.pc, .d (.row .bor 1 (Rw (cI .i64) p0.locals)), .d (.row .bor 1 (Rw (cI .i64) p0.stack))], .agg [V.int p1.func0, V.int p1.pc, .d (.row .bor 1 (Rw (cI .i64) p1.locals)), .d (.row .bor 1 (Rw (cI .i64) p1.stack))]] [] (V.bool r) []) ∧
  (∀ {k : Nat} {p0 : (List GI2)} {p1 : (List GI2)} {r : Bool}, laws_eqInsS k p0 p1 = some r → Con Tryz.prog 130 [.d (.row .bor 2 (Rw GI2.cells p0)), .d (.row .bor 2 (Rw GI2.cells p1))] [] (V.bool r) []) ∧
  (∀ {k : Nat} {p0 : (List (List Int))} {p1 : (List (List Int))} {r : Bool}, laws_eqInt64SS k p0 p1 = some r → Con Tryz.prog 55 [.d (.row .bor 1 (Rw (cL .bor 1 (cI .i64)) p0)), .d (.row .bor 1 (Rw (cL .bor 1 (cI .i64)) p1))] [] (V.bool r) []) := by
  refine ⟨?_, ?_, ?_, ?_, ?_, ?_, ?_⟩
  all_goals intros
  all_goals rename_i h
  all_goals first
    | (with_reducible refine isf 136 ?_
       refine csw Tryz.func136 Tryz.call136 (by simp [Tryz.ntmps136]) (h := ?_)
       refine mkf 136 fun hF => ?_
       rw [Tryz.ntmps136, Tryz.results136]
       unfold spec_InsRight at h)
    | (with_reducible refine isf 89 ?_
       refine csw Tryz.func89 Tryz.call89 (by simp [Tryz.ntmps89]) (h := ?_)
       refine mkf 89 fun hF => ?_
       rw [Tryz.ntmps89, Tryz.results89]
       unfold spec_Puts at h)
    | (with_reducible refine isf 85 ?_
       refine csw Tryz.func85 Tryz.call85 (by simp [Tryz.ntmps85]) (h := ?_)
       refine mkf 85 fun hF => ?_
       rw [Tryz.ntmps85, Tryz.results85]
       unfold spec_Takes at h)
    | (with_reducible refine isf 84 ?_
       refine csw Tryz.func84 Tryz.call84 (by simp [Tryz.ntmps84]) (h := ?_)
       refine mkf 84 fun hF => ?_
       rw [Tryz.ntmps84, Tryz.results84]
       unfold spec_l06CopyFrame at h)
    | (with_reducible refine isf 95 ?_
       refine csw Tryz.func95 Tryz.call95 (by simp [Tryz.ntmps95]) (h := ?_)
       refine mkf 95 fun hF => ?_
       rw [Tryz.ntmps95, Tryz.results95]
       unfold laws_eqFrame at h)
    | (with_reducible refine isf 130 ?_
       refine csw Tryz.func130 Tryz.call130 (by simp [Tryz.ntmps130]) (h := ?_)
       refine mkf 130 fun hF => ?_
       rw [Tryz.ntmps130, Tryz.results130]
       unfold laws_eqInsS at h)
    | (with_reducible refine isf 55 ?_
       refine csw Tryz.func55 Tryz.call55 (by simp [Tryz.ntmps55]) (h := ?_)
       refine mkf 55 fun hF => ?_
       rw [Tryz.ntmps55, Tryz.results55]
       unfold laws_eqInt64SS at h)
  all_goals (replace h := Yes.mk h; simp only [entryS, entryO, Nat.reduceAdd, List.length_nil, List.length_cons])
  repeat' (first
 | (with_reducible (first | refine sw_reg ?_ | refine sw_ret ?_ | refine sw_skip ?_ | refine sw_block ?_ | refine sw_exit ?_ | refine seqQ_normal ?_ | refine blockQ_normal ?_ | refine blockQ_ret ?_ | refine blockQ_this ?_ | refine blockQ_other (by decide) ?_ | refine regW_nil ?_ | refine sw_draw mixed ?_ | refine retQ_ret ?_ | refine retQ_normal ?_))
 | (with_reducible refine regD_nil ?_
    refine ⟨by kernel_rfl, ?_⟩)
 | (revert h; (first | ((with_reducible refine idx_elim ?_); intro m hm1 hm2 hm3 h; (try (simp only [Int.reduceToNat] at hm3)); (try (revert hm3; (with_reducible apply same_elim); (focus (with_reducible assumption)); rintro rfl)); (try (simp only [List.length_set, List.length_cons, List.length_nil, List.length_replicate, Nat.reduceAdd, Int.cast_ofNat_Int, Nat.zero_add, List.length_append] at hm2))) | (with_reducible refine sidx_elim ?_; intro m hm1 hm3 h) | (with_reducible refine gd_elim ?_; intro hg h; try (have hg2 := hg.2; have hg := hg.1; (try (simp only [Nat.reduceLeDiff] at hg2)); (try (revert hg2; (with_reducible refine toNat_elim hg ?_); intro hg2 hg4)); try (have hg3 := hg2.2; have hg2 := hg2.1; (try (simp only [Nat.reduceLeDiff] at hg3))))) | (with_reducible refine condt_elim ?_ ?_; (focus (with_reducible assumption)); intro h) | (with_reducible refine condf_elim ?_ ?_; (focus (with_reducible assumption)); intro h)))
 | ((with_reducible first | refine pnR ?_ | refine pnE ?_ | refine pmR ?_ | refine pmE ?_)
    obtain rfl := h.get
    have h := hK
    clear hK
    (try (simp only [Sum.elim_inl, Sum.elim_inr] at h)))
 | ((with_reducible refine fi 136 ?_ ?_); (focus (with_reducible assumption))
    first
    | (with_reducible refine here_join (a := (.seq (.region 9 _ _) _)) (b := (.cond (.tmp 37) _ _)) ?_
       revert h
       with_reducible refine bind_elimY ?_
       intro o4 h hK
       unfold spec_InsRight.a4 at h
       refine sw_join (ι := (List GFunc) × GI2 × Int × Int × Bool) 40000000 (fun x => [(.s 1, some (.v (V.int x.2.2.1))), (.s 3, some (.v (.mp 0 1 0 0))), (.s 5, some (.v (.mp 64 2 0 0))), (.s 17, some (.v (V.int x.2.2.2.1))), (.s 37, some (.v (V.bool x.2.2.2.2))), (.r 0, some (.o 1 [[.d (.row .bor 3 (Rw (GFunc.cells .bor) x.1))]])), (.r 64, some (.o 2 [[V.int x.2.1.a, V.int x.2.1.b]]))]) (fun x => Yes (some (x)) o4) ?_ ?_
       rotate_left
       rintro ⟨b1, b2, b3, b4, b5⟩ h
       obtain rfl := h.get
       have h := hK
       clear hK
       (try (simp only [Sum.elim_inl, Sum.elim_inr] at h))
       refine sw_gh ?_
       refine gh_sw ?_)
    | (with_reducible refine here_join (a := (.seq (.region 6 _ _) _)) (b := (.cond (.tmp 20) _ _)) ?_
       revert h
       with_reducible refine bind_elimY ?_
       intro o3 h hK
       unfold spec_InsRight.a3 at h
       refine sw_join (ι := (List GFunc) × GI2 × Int × Int × Bool) 30000000 (fun x => [(.s 1, some (.v (V.int x.2.2.1))), (.s 3, some (.v (.mp 0 1 0 0))), (.s 5, some (.v (.mp 64 2 0 0))), (.s 17, some (.v (V.int x.2.2.2.1))), (.s 20, some (.v (V.bool x.2.2.2.2))), (.r 0, some (.o 1 [[.d (.row .bor 3 (Rw (GFunc.cells .bor) x.1))]])), (.r 64, some (.o 2 [[V.int x.2.1.a, V.int x.2.1.b]]))]) (fun x => Yes (some (x)) o3) ?_ ?_
       rotate_left
       rintro ⟨b1, b2, b3, b4, b5⟩ h
       obtain rfl := h.get
       have h := hK
       clear hK
       (try (simp only [Sum.elim_inl, Sum.elim_inr] at h))
       refine sw_gh ?_
       refine gh_sw ?_)
    | (with_reducible refine here_join (a := (.seq (.region 3 _ _) _)) (b := (.seq (.region 14 _ _) _)) ?_
       revert h
       with_reducible refine bind_elimY ?_
       intro o2 h hK
       unfold spec_InsRight.a2 at h
       refine sw_join (ι := GI2) 20000000 (fun x => [(.s 5, some (.v (.mp 64 2 0 0))), (.r 64, some (.o 2 [[V.int x.a, V.int x.b]]))]) (fun x => Yes (some (.inr x)) o2) ?_ ?_
       rotate_left
       rintro b1 h
       obtain rfl := h.get
       have h := hK
       clear hK
       (try (simp only [Sum.elim_inl, Sum.elim_inr] at h))
       refine sw_gh ?_
       refine gh_sw ?_)
    | (with_reducible refine here_join (a := (.seq (.region 1 _ _) _)) (b := (.seq (.seq (.region 3 _ _) _) _)) ?_
       revert h
       with_reducible refine bind_elimY ?_
       intro o1 h hK
       unfold spec_InsRight.a1 at h
       refine sw_join (ι := (List GFunc) × GI2 × Int) 10000000 (fun x => [(.s 1, some (.v (V.int x.2.2))), (.s 3, some (.v (.mp 0 1 0 0))), (.s 5, some (.v (.mp 64 2 0 0))), (.r 0, some (.o 1 [[.d (.row .bor 3 (Rw (GFunc.cells .bor) x.1))]])), (.r 64, some (.o 2 [[V.int x.2.1.a, V.int x.2.1.b]]))]) (fun x => Yes (some (.inr x)) o1) ?_ ?_
       rotate_left
       rintro ⟨b1, b2, b3⟩ h
       obtain rfl := h.get
       have h := hK
       clear hK
       (try (simp only [Sum.elim_inl, Sum.elim_inr] at h))
       refine sw_gh ?_
       refine gh_sw ?_))
 | ((with_reducible refine fi 89 ?_ ?_); (focus (with_reducible assumption))
    first
    | (with_reducible refine here_join (a := (.seq (.region 1 _ _) _)) (b := (.seq (.seq (.region 3 _ _) _) _)) ?_
       revert h
       with_reducible refine bind_elimY ?_
       intro o1 h hK
       unfold spec_Puts.a1 at h
       refine sw_join (ι := GI2) 10000000 (fun x => [(.s 1, some (.v (.mp 0 2 0 0))), (.r 0, some (.o 2 [[V.int x.a, V.int x.b]]))]) (fun x => Yes (some (.inr x)) o1) ?_ ?_
       rotate_left
       rintro b1 h
       obtain rfl := h.get
       have h := hK
       clear hK
       (try (simp only [Sum.elim_inl, Sum.elim_inr] at h))
       refine sw_gh ?_
       refine gh_sw ?_))
 | ((with_reducible refine fi 85 ?_ ?_); (focus (with_reducible assumption))
    first
    | (with_reducible refine here_join (a := (.region 1 _ _)) (b := (.cond (.tmp 5) _ _)) ?_
       revert h
       with_reducible refine bind_elimY ?_
       intro o2 h hK
       unfold spec_Takes.a2 at h
       refine sw_join (ι := (List GFunc) × GI2 × Bool) 20000000 (fun x => [(.s 2, some (.v (.mp 0 1 0 0))), (.s 3, some (.v (.mp 64 2 0 0))), (.s 5, some (.v (V.bool x.2.2))), (.r 0, some (.o 1 [[.d (.row .bor 3 (Rw (GFunc.cells .bor) x.1))]])), (.r 64, some (.o 2 [[V.int x.2.1.a, V.int x.2.1.b]]))]) (fun x => Yes (some (x)) o2) ?_ ?_
       rotate_left
       rintro ⟨b1, b2, b3⟩ h
       obtain rfl := h.get
       have h := hK
       clear hK
       (try (simp only [Sum.elim_inl, Sum.elim_inr] at h))
       refine sw_gh ?_
       refine gh_sw ?_)
    | (with_reducible refine here_join (a := (.block 0 _)) (b := (.seq (.seq (.region 11 _ _) _) _)) ?_
       revert h
       with_reducible refine bind_elimY ?_
       intro o1 h hK
       unfold spec_Takes.a1 at h
       refine sw_join (ι := GI2) 10000000 (fun x => [(.s 3, some (.v (.mp 64 2 0 0))), (.r 64, some (.o 2 [[V.int x.a, V.int x.b]]))]) (fun x => Yes (some (.inr x)) o1) ?_ ?_
       rotate_left
       rintro b1 h
       obtain rfl := h.get
       have h := hK
       clear hK
       (try (simp only [Sum.elim_inl, Sum.elim_inr] at h))
       refine sw_gh ?_
       refine gh_sw ?_))
 | ((with_reducible refine fi 130 ?_ ?_); (focus (with_reducible assumption))
    first
    | (with_reducible refine here_loop (c := (.seq (.seq (.region 4 _ _) _) _)) ?_
       revert h
       with_reducible refine bind_elimY ?_
       intro o1 h hK
       refine lpA (β := (List GI2) × (List GI2) × Int) 10000000 (fun x => [(.s 0, some (.v (.d (.row .bor 2 (Rw GI2.cells x.2.1))))), (.s 1, some (.v (.d (.row .bor 2 (Rw GI2.cells x.2.2.1))))), (.s 5, some (.v (V.int x.2.2.2)))]) (fun x => Yes (laws_eqInsS.l1 x.1 x.2.1 x.2.2.1 x.2.2.2) o1) (_, _, _, _) h ?_
       rintro ⟨_ | k, a1, a2, a3⟩ h
       · simp only [laws_eqInsS.l1] at h; exact h.none
       simp only [laws_eqInsS.l1] at h
   ))
 | ((with_reducible refine fi 55 ?_ ?_); (focus (with_reducible assumption))
    first
    | (with_reducible refine here_loop (c := (.seq (.seq (.region 4 _ _) _) _)) ?_
       revert h
       with_reducible refine bind_elimY ?_
       intro o1 h hK
       refine lpA (β := (List (List Int)) × (List (List Int)) × Int) 10000000 (fun x => [(.s 0, some (.v (.d (.row .bor 1 (Rw (cL .bor 1 (cI .i64)) x.2.1))))), (.s 1, some (.v (.d (.row .bor 1 (Rw (cL .bor 1 (cI .i64)) x.2.2.1))))), (.s 5, some (.v (V.int x.2.2.2)))]) (fun x => Yes (laws_eqInt64SS.l1 x.1 x.2.1 x.2.2.1 x.2.2.2) o1) (_, _, _, _) h ?_
       rintro ⟨_ | k, a1, a2, a3⟩ h
       · simp only [laws_eqInt64SS.l1] at h; exact h.none
       simp only [laws_eqInt64SS.l1] at h
   ))
 | (with_reducible refine here_next ?_
    first | refine nxA (_, _, _, _) h)
 | (with_reducible refine here_meet ?_
    first | refine mtA _ h | refine mtA (_, _, _) h | refine mtA (_, _, _, _, _) h)
 | with_reducible refine sw_seq ?_
 | with_reducible refine seqQ_ret ?_
 | with_reducible refine seqQ_exit ?_
 | ((with_reducible refine wp_ite ?_ ?_)
    all_goals (intro hc; (try (simp only [Bool.not_eq_true, Bool.not_eq_false] at hc)); simp only [hc]))
 | (with_reducible refine rskip (hs := ?_) (h2 := ?_)
    · simp only [putSt, lk, lkb, reduceCtorEq, Nat.reduceEqDiff]; done)
 | (with_reducible refine ryes (hs := ?_) (h := ?_)
    · simp only [putSt, lk, lkb, reduceCtorEq, Nat.reduceEqDiff]; done)
 | (with_reducible refine rno (hs := ?_) (h := ?_)
    · simp only [putSt, lk, lkb, reduceCtorEq, Nat.reduceEqDiff, Bool.not_true, Bool.not_false]; done)
 | (with_reducible apply regW_guardN
    · simp only [dstOk, Nat.reduceLT]
    · rfl
    · simp only [putSt, lk, lkb, reduceCtorEq, Nat.reduceEqDiff]; rfl
    all_goals (intro hc; (try (simp only [Bool.not_true, Bool.not_false] at hc))))
 | (with_reducible apply sw_cond
    · simp only [putSt, lk, lkb, reduceCtorEq, Nat.reduceEqDiff]; rfl
    all_goals (intro hc; try (cases hc; done)))
 | ((first
     | ((with_reducible refine gh_ret ?_)
        revert h
        with_reducible refine some_elim ?_
        rintro rfl)
     | (with_reducible refine here_call ?_
        revert h
        with_reducible refine bind_elim ?_
        intro t ht h
        (first
          | ((first
              | ((with_reducible refine here_call (f := 148) ?_); refine call_dataE (c_spec_OpName ht) ?_ rfl ?_)
              | ((with_reducible refine here_call (f := 123) ?_); refine call_dataE (c_spec_l03Binary ht) ?_ rfl ?_)
              | ((with_reducible refine here_call (f := 124) ?_); refine call_dataE (c_spec_l03Unary ht) ?_ rfl ?_)
              | ((with_reducible refine here_call (f := 83) ?_); refine call_dataE (c_spec_l06Nums ht) ?_ rfl ?_)
              | ((with_reducible refine here_call (f := 56) ?_); refine call_dataE (c_laws_eqInt64S ht) ?_ rfl ?_)
              | ((with_reducible refine here_call (f := 145) ?_); refine call_dataE (c_laws_eqIns ht) ?_ rfl ?_))
             · first | rfl | (simp; done))))
     | (with_reducible (first | refine ropD (h := ?_) | refine ropW (h := ?_))
        intro k hk)
     | skip)
    simp only [RetW, bn, lkb, evb, opC, opP, fetchN, fetchP, fetchAll, fetchO, Prog.bind, Prog.wp, Prog.wp_bind, lk, nameP, nameAll, Value.oneCell', putSt, stepP, putP, reduceCtorEq, V.lin, V.linL, D.lin, isNil, binP, unP, BinOp.isShift, Prog.ofO, Nat.reduceAdd, Nat.reduceMul, Nat.reduceSub, Nat.reduceLT, Nat.reduceLeDiff, Nat.reduceEqDiff, ite_true, ite_false, fieldAddrP, fieldP, indexAddrP, loadP, storeP, boxP, allocP, cellsP, asVal, setSeg, outP, outT, cntT, TyK.field, TyK.agg, zeroRow, V.ren, V.renL, forall_eq_or_imp, forall_const, minmaxP, lenP, lenOf, lenStr, V.asInt, decide_true, decide_false, sliceP, boundP, makeSliceP, convertP, appendP, rowsOfP, ontoP, sizeFits, V.rowSize, TyK.src, resV, resV.go, resV.gol, retP, retOne, retAll, resTo, objsAre, Option.map_eq_map, Function.const_apply, Int.reduceNeg, Int.reduceToNat, ty2, ty3, ty4, ty9, ty23, ty25, ty27, ty28, ty56, ty92, ty94, ty98, GFrame.cells, GFunc.cells, GI2.cells, GProgram.cells, cI, cB, cS, cL, GFrame_e, GI2_e, GFunc_e, GProgram_e, LcIi64_e, *]
    try (refine hk.use _ _ _ _ ?_; clear hk k))
 | fail)
  all_goals (try rfl)
  all_goals (try (simp; done))
  all_goals (try (simp_all; done))
def c_spec_InsRight := @And.left _ _ gs13
def c_spec_Puts := @And.left _ _ (@And.right _ _ gs13)
def c_spec_Takes := @And.left _ _ (@And.right _ _ (@And.right _ _ gs13))
def c_spec_l06CopyFrame := @And.left _ _ (@And.right _ _ (@And.right _ _ (@And.right _ _ gs13)))
def c_laws_eqFrame := @And.left _ _ (@And.right _ _ (@And.right _ _ (@And.right _ _ (@And.right _ _ gs13))))
def c_laws_eqInsS := @And.left _ _ (@And.right _ _ (@And.right _ _ (@And.right _ _ (@And.right _ _ (@And.right _ _ gs13)))))
def c_laws_eqInt64SS := (@And.right _ _ (@And.right _ _ (@And.right _ _ (@And.right _ _ (@And.right _ _ (@And.right _ _ gs13))))))
set_option linter.defProp false
def laws_heldFrameS.l1 : Nat → (List GFrame) → Int → Int → Option ((Int) ⊕ (Int))
  | 0, _, _, _ => none
  | k + 1, a1, a2, a3 => cond ((decide (a3 < ((a1.length : Int))))) ((idx a1 a3).bind fun m1 => cond ((m1.func0 != a2)) (some (.inl ((-1)))) (cond ((m1.pc != ((IntKind.i64.wrap (a2 + 1))))) (some (.inl ((-1)))) ((laws_heldInt64S k m1.locals ((IntKind.i64.wrap (((IntKind.i64.wrap (a2 + 1))) + 1)))).bind fun t2 => cond ((decide (t2 < 0))) (some (.inl ((-1)))) ((laws_heldInt64S k m1.stack t2).bind fun t3 => cond ((decide (t3 < 0))) (some (.inl ((-1)))) (laws_heldFrameS.l1 k a1 t3 ((IntKind.i64.wrap (a3 + 1)))))))) (some (.inr (a2)))
def laws_heldFrameS (k : Nat) (p0 : (List GFrame)) (p1 : Int) : Option (Int) :=
  (laws_heldFrameS.l1 k p0 p1 0).bind fun o1 => Sum.elim (fun o1l => some o1l) (fun o1r => some o1r) o1
def laws_heldInt64SS.l1 : Nat → (List (List Int)) → Int → Int → Option ((Int) ⊕ (Int))
  | 0, _, _, _ => none
  | k + 1, a1, a2, a3 => cond ((decide (a3 < ((a1.length : Int))))) ((idx a1 a3).bind fun m1 => (laws_heldInt64S k m1 a2).bind fun t2 => cond ((decide (t2 < 0))) (some (.inl ((-1)))) (laws_heldInt64SS.l1 k a1 t2 ((IntKind.i64.wrap (a3 + 1))))) (some (.inr (a2)))
def laws_heldInt64SS (k : Nat) (p0 : (List (List Int))) (p1 : Int) : Option (Int) :=
  (laws_heldInt64SS.l1 k p0 p1 0).bind fun o1 => Sum.elim (fun o1l => some o1l) (fun o1r => some o1r) o1
def laws_markFrameS.l1 : Nat → (List GFrame) → Int → Int → Option ((List GFrame) × Int)
  | 0, _, _, _ => none
  | k + 1, a1, a2, a3 => cond ((decide (a3 < ((a1.length : Int))))) ((idx a1 a3).bind fun m1 => (laws_markInt64S k m1.locals ((IntKind.i64.wrap (((IntKind.i64.wrap (a2 + 1))) + 1)))).bind fun t2 => gd (t2.2.length = m1.locals.length) ((laws_markInt64S k m1.stack t2.1).bind fun t3 => gd (t3.2.length = m1.stack.length) (laws_markFrameS.l1 k ((((a1.set a3.toNat ((⟨a2, (IntKind.i64.wrap (a2 + 1)), m1.locals, m1.stack⟩ : GFrame)))).set a3.toNat (⟨a2, (IntKind.i64.wrap (a2 + 1)), t2.2, t3.2⟩ : GFrame))) t3.1 ((IntKind.i64.wrap (a3 + 1)))))) (some (a1, a2))
def laws_markFrameS (k : Nat) (p0 : (List GFrame)) (p1 : Int) : Option (Int × (List GFrame)) :=
  (laws_markFrameS.l1 k p0 p1 0).bind fun o1 => some (o1.2, o1.1)
def laws_markFuncS.l1 : Nat → (List GFunc) → Int → Int → Option ((List GFunc) × Int)
  | 0, _, _, _ => none
  | k + 1, a1, a2, a3 => cond ((decide (a3 < ((a1.length : Int))))) ((idx a1 a3).bind fun m1 => (laws_markInsS k m1.code ((IntKind.i64.wrap (((IntKind.i64.wrap (a2 + 1))) + 1)))).bind fun t2 => gd (t2.2.length = m1.code.length) (laws_markFuncS.l1 k ((((a1.set a3.toNat ((⟨a2, (IntKind.i64.wrap (a2 + 1)), m1.code⟩ : GFunc)))).set a3.toNat (⟨a2, (IntKind.i64.wrap (a2 + 1)), t2.2⟩ : GFunc))) t2.1 ((IntKind.i64.wrap (a3 + 1))))) (some (a1, a2))
def laws_markFuncS (k : Nat) (p0 : (List GFunc)) (p1 : Int) : Option (Int × (List GFunc)) :=
  (laws_markFuncS.l1 k p0 p1 0).bind fun o1 => some (o1.2, o1.1)
def laws_markInt64SS.l1 : Nat → (List (List Int)) → Int → Int → Option ((List (List Int)) × Int)
  | 0, _, _, _ => none
  | k + 1, a1, a2, a3 => cond ((decide (a3 < ((a1.length : Int))))) ((idx a1 a3).bind fun m1 => (laws_markInt64S k m1 a2).bind fun t2 => gd (t2.2.length = m1.length) (laws_markInt64SS.l1 k ((a1.set a3.toNat t2.2)) t2.1 ((IntKind.i64.wrap (a3 + 1))))) (some (a1, a2))
def laws_markInt64SS (k : Nat) (p0 : (List (List Int))) (p1 : Int) : Option (Int × (List (List Int))) :=
  (laws_markInt64SS.l1 k p0 p1 0).bind fun o1 => some (o1.2, o1.1)
def laws_szFrame (p0 : GFrame) (p1 : Int) : Option (Int) :=
  (laws_szInt64S p0.locals p1).bind fun t1 => cond ((decide (t1 < 0))) (some ((-1))) ((laws_szInt64S p0.stack t1).bind fun t2 => cond ((decide (t2 < 0))) (some ((-1))) (some t2))
def laws_szFunc (p0 : GFunc) (p1 : Int) : Option (Int) :=
  (laws_szInsS p0.code p1).bind fun t1 => cond ((decide (t1 < 0))) (some ((-1))) (some t1)
def laws_szInt64SS.l1 : Nat → (List (List Int)) → Int → Int → Option ((Int) ⊕ (Int))
  | 0, _, _, _ => none
  | k + 1, a1, a2, a3 => cond ((decide (a3 < ((a1.length : Int))))) ((idx a1 a3).bind fun m1 => (laws_szInt64S m1 a2).bind fun t2 => cond ((decide (t2 < 0))) (some (.inl ((-1)))) (laws_szInt64SS.l1 k a1 t2 ((IntKind.i64.wrap (a3 + 1))))) (some (.inr (a2)))
def laws_szInt64SS (k : Nat) (p0 : (List (List Int))) (p1 : Int) : Option (Int) :=
  cond ((decide (((IntKind.i64.wrap (p1 - ((p0.length : Int))))) < 0))) (some ((-1))) ((laws_szInt64SS.l1 k p0 ((IntKind.i64.wrap (p1 - ((p0.length : Int))))) 0).bind fun o1 => Sum.elim (fun o1l => some o1l) (fun o1r => some o1r) o1)
def laws_toFrame (k : Nat) (p0 : GFrame) : Option (GFrame) :=
  (laws_toInt64S k p0.locals).bind fun t1 => (laws_toInt64S k p0.stack).bind fun t2 => some ((⟨p0.func0, p0.pc, t1, t2⟩ : GFrame))
def laws_toInsS.l1 : Nat → (List GI2) → (List GI2) → Int → Option ((List GI2))
  | 0, _, _, _ => none
  | k + 1, a1, a2, a3 => cond ((decide (a3 < ((a2.length : Int))))) ((idx a2 a3).bind fun m1 => (laws_toIns m1).bind fun t2 => (idx a1 a3).bind fun m3 => laws_toInsS.l1 k ((a1.set a3.toNat t2)) a2 ((IntKind.i64.wrap (a3 + 1)))) (some (a1))
def laws_toInsS (k : Nat) (p0 : (List GI2)) : Option ((List GI2)) :=
  gd (0 ≤ (p0.length : Int) ∧ ((p0.length : Int)) * 16 ≤ 35184372088832 ∧ (p0.length : Int) ≤ 35184372088832) ((laws_toInsS.l1 k ((List.replicate p0.length (⟨0, 0⟩))) p0 0).bind fun o1 => some o1)
def laws_toInt64SS.l1 : Nat → (List (List Int)) → (List (List Int)) → Int → Option ((List (List Int)))
  | 0, _, _, _ => none
  | k + 1, a1, a2, a3 => cond ((decide (a3 < ((a2.length : Int))))) ((idx a2 a3).bind fun m1 => (laws_toInt64S k m1).bind fun t2 => (idx a1 a3).bind fun m3 => laws_toInt64SS.l1 k ((a1.set a3.toNat t2)) a2 ((IntKind.i64.wrap (a3 + 1)))) (some (a1))
def laws_toInt64SS (k : Nat) (p0 : (List (List Int))) : Option ((List (List Int))) :=
  gd (0 ≤ (p0.length : Int) ∧ ((p0.length : Int)) * 24 ≤ 35184372088832 ∧ (p0.length : Int) ≤ 35184372088832) ((laws_toInt64SS.l1 k ((List.replicate p0.length [])) p0 0).bind fun o1 => some o1)
theorem gs14 : (∀ {k : Nat} {p0 : (List GFrame)} {p1 : Int} {r : Int}, laws_heldFrameS k p0 p1 = some r → Con Tryz.prog 62 [.d (.row .bor 4 (Rw (GFrame.cells .bor) p0)), V.int p1] [] (V.int r) []) ∧
  (∀ {k : Nat} {p0 : (List (List Int))} {p1 : Int} {r : Int}, laws_heldInt64SS k p0 p1 = some r → Con Tryz.prog 63 [.d (.row .bor 1 (Rw (cL .bor 1 (cI .i64)) p0)), V.int p1] [] (V.int r) []) ∧
  (∀ {k : Nat} {p0 : (List GFrame)} {p1 : Int} {r : Int × (List GFrame)}, laws_markFrameS k p0 p1 = some r → Con Tryz.prog 59 [.sl 0 4 0 p0.length, V.int p1] [.o 4 (dd (Rw (GFrame.cells .own) p0))] (V.int r.1) [.o 4 (dd (Rw (GFrame.cells .own) r.2))]) ∧
  (∀ {k : Nat} {p0 : (List GFunc)} {p1 : Int} {r : Int × (List GFunc)}, laws_markFuncS k p0 p1 = some r → Con Tryz.prog 58 [.sl 0 3 0 p0.length, V.int p1] [.o 3 (dd (Rw (GFunc.cells .own) p0))] (V.int r.1) [.o 3 (dd (Rw (GFunc.cells .own) r.2))]) ∧
  (∀ {k : Nat} {p0 : (List (List Int))} {p1 : Int} {r : Int × (List (List Int))}, laws_markInt64SS k p0 p1 = some r → Con Tryz.prog 60 [.sl 0 1 0 p0.length, V.int p1] [.o 1 (dd (Rw (cL .own 1 (cI .i64)) p0))] (V.int r.1) [.o 1 (dd (Rw (cL .own 1 (cI .i64)) r.2))]) ∧
  (∀ {p0 : GFrame} {p1 : Int} {r : Int}, laws_szFrame p0 p1 = some r → Con Tryz.prog 92 [.agg [V.int p0.func0, V.int p0.pc, .d (.row .bor 1 (Rw (cI .i64) p0.locals)), .d (.row .bor 1 (Rw (cI .i64) p0.stack))], V.int p1] [] (V.int r) []) ∧
  (∀ {p0 : GFunc} {p1 : Int} {r : Int}, laws_szFunc p0 p1 = some r → Con Tryz.prog 91 [.agg [V.int p0.args, V.int p0.locals, .d (.row .bor 2 (Rw GI2.cells p0.code))], V.int p1] [] (V.int r) []) ∧
  (∀ {k : Nat} {p0 : (List (List Int))} {p1 : Int} {r : Int}, laws_szInt64SS k p0 p1 = some r → Con Tryz.prog 48 [.d (.row .bor 1 (Rw (cL .bor 1 (cI .i64)) p0)), V.int p1] [] (V.int r) []) ∧
  (∀ {k : Nat} {p0 : GFrame} {r : GFrame}, laws_toFrame k p0 = some r → Con Tryz.prog 94 [.agg [V.int p0.func0, V.int p0.pc, .d (.row .bor 1 (Rw (cI .i64) p0.locals)), .d (.row .bor 1 (Rw (cI .i64) p0.stack))]] [] (.agg [V.int r.func0, V.int r.pc, .d (.row .own 1 (Rw (cI .i64) r.locals)), .d (.row .own 1 (Rw (cI .i64) r.stack))]) []) ∧
  (∀ {k : Nat} {p0 : (List GI2)} {r : (List GI2)}, laws_toInsS k p0 = some r → Con Tryz.prog 129 [.d (.row .bor 2 (Rw GI2.cells p0))] [] (.d (.row .own 2 (Rw GI2.cells r))) []) ∧
  (∀ {k : Nat} {p0 : (List (List Int))} {r : (List (List Int))}, laws_toInt64SS k p0 = some r → Con Tryz.prog 52 [.d (.row .bor 1 (Rw (cL .bor 1 (cI .i64)) p0))] [] (.d (.row .own 1 (Rw (cL .own 1 (cI .i64)) r))) []) := by
  refine ⟨?_, ?_, ?_, ?_, ?_, ?_, ?_, ?_, ?_, ?_, ?_⟩
  all_goals intros
  all_goals rename_i h
  all_goals first
    | (with_reducible refine isf 62 ?_
       refine csw Tryz.func62 Tryz.call62 (by simp [Tryz.ntmps62]) (h := ?_)
       refine mkf 62 fun hF => ?_
       rw [Tryz.ntmps62, Tryz.results62]
       unfold laws_heldFrameS at h)
    | (with_reducible refine isf 63 ?_
       refine csw Tryz.func63 Tryz.call63 (by simp [Tryz.ntmps63]) (h := ?_)
       refine mkf 63 fun hF => ?_
       rw [Tryz.ntmps63, Tryz.results63]
       unfold laws_heldInt64SS at h)
    | (with_reducible refine isf 59 ?_
       refine csw Tryz.func59 Tryz.call59 (by simp [Tryz.ntmps59]) (h := ?_)
       refine mkf 59 fun hF => ?_
       rw [Tryz.ntmps59, Tryz.results59]
       unfold laws_markFrameS at h)
    | (with_reducible refine isf 58 ?_
       refine csw Tryz.func58 Tryz.call58 (by simp [Tryz.ntmps58]) (h := ?_)
       refine mkf 58 fun hF => ?_
       rw [Tryz.ntmps58, Tryz.results58]
       unfold laws_markFuncS at h)
    | (with_reducible refine isf 60 ?_
       refine csw Tryz.func60 Tryz.call60 (by simp [Tryz.ntmps60]) (h := ?_)
       refine mkf 60 fun hF => ?_
       rw [Tryz.ntmps60, Tryz.results60]
       unfold laws_markInt64SS at h)
    | (with_reducible refine isf 92 ?_
       refine csw Tryz.func92 Tryz.call92 (by simp [Tryz.ntmps92]) (h := ?_)
       refine mkf 92 fun hF => ?_
       rw [Tryz.ntmps92, Tryz.results92]
       unfold laws_szFrame at h)
    | (with_reducible refine isf 91 ?_
       refine csw Tryz.func91 Tryz.call91 (by simp [Tryz.ntmps91]) (h := ?_)
       refine mkf 91 fun hF => ?_
       rw [Tryz.ntmps91, Tryz.results91]
       unfold laws_szFunc at h)
    | (with_reducible refine isf 48 ?_
       refine csw Tryz.func48 Tryz.call48 (by simp [Tryz.ntmps48]) (h := ?_)
       refine mkf 48 fun hF => ?_
       rw [Tryz.ntmps48, Tryz.results48]
       unfold laws_szInt64SS at h)
    | (with_reducible refine isf 94 ?_
       refine csw Tryz.func94 Tryz.call94 (by simp [Tryz.ntmps94]) (h := ?_)
       refine mkf 94 fun hF => ?_
       rw [Tryz.ntmps94, Tryz.results94]
       unfold laws_toFrame at h)
    | (with_reducible refine isf 129 ?_
       refine csw Tryz.func129 Tryz.call129 (by simp [Tryz.ntmps129]) (h := ?_)
       refine mkf 129 fun hF => ?_
       rw [Tryz.ntmps129, Tryz.results129]
       unfold laws_toInsS at h)
    | (with_reducible refine isf 52 ?_
       refine csw Tryz.func52 Tryz.call52 (by simp [Tryz.ntmps52]) (h := ?_)
       refine mkf 52 fun hF => ?_
       rw [Tryz.ntmps52, Tryz.results52]
       unfold laws_toInt64SS at h)
  all_goals (replace h := Yes.mk h; simp only [entryS, entryO, Nat.reduceAdd, List.length_nil, List.length_cons])
  repeat' (first
 | (with_reducible (first | refine sw_reg ?_ | refine sw_ret ?_ | refine sw_skip ?_ | refine sw_block ?_ | refine sw_exit ?_ | refine seqQ_normal ?_ | refine blockQ_normal ?_ | refine blockQ_ret ?_ | refine blockQ_this ?_ | refine blockQ_other (by decide) ?_ | refine regW_nil ?_ | refine sw_draw mixed ?_ | refine retQ_ret ?_ | refine retQ_normal ?_))
 | (with_reducible refine regD_nil ?_
    refine ⟨by kernel_rfl, ?_⟩)
 | (revert h; (first | ((with_reducible refine idx_elim ?_); intro m hm1 hm2 hm3 h; (try (simp only [Int.reduceToNat] at hm3)); (try (revert hm3; (with_reducible apply same_elim); (focus (with_reducible assumption)); rintro rfl)); (try (simp only [List.length_set, List.length_cons, List.length_nil, List.length_replicate, Nat.reduceAdd, Int.cast_ofNat_Int, Nat.zero_add, List.length_append] at hm2))) | (with_reducible refine sidx_elim ?_; intro m hm1 hm3 h) | (with_reducible refine gd_elim ?_; intro hg h; try (have hg2 := hg.2; have hg := hg.1; (try (simp only [Nat.reduceLeDiff] at hg2)); (try (revert hg2; (with_reducible refine toNat_elim hg ?_); intro hg2 hg4)); try (have hg3 := hg2.2; have hg2 := hg2.1; (try (simp only [Nat.reduceLeDiff] at hg3))))) | (with_reducible refine condt_elim ?_ ?_; (focus (with_reducible assumption)); intro h) | (with_reducible refine condf_elim ?_ ?_; (focus (with_reducible assumption)); intro h)))
 | ((with_reducible first | refine pnR ?_ | refine pnE ?_ | refine pmR ?_ | refine pmE ?_)
    obtain rfl := h.get
    have h := hK
    clear hK
    (try (simp only [Sum.elim_inl, Sum.elim_inr] at h)))
 | ((with_reducible refine fi 62 ?_ ?_); (focus (with_reducible assumption))
    first
    | (with_reducible refine here_loop (c := (.seq (.seq (.region 2 _ _) _) _)) ?_
       revert h
       with_reducible refine bind_elimY ?_
       intro o1 h hK
       refine lpA (β := (List GFrame) × Int × Int) 10000000 (fun x => [(.s 0, some (.v (.d (.row .bor 4 (Rw (GFrame.cells .bor) x.2.1))))), (.s 1, some (.v (V.int x.2.2.1))), (.s 5, some (.v (V.int x.2.2.2)))]) (fun x => Yes (laws_heldFrameS.l1 x.1 x.2.1 x.2.2.1 x.2.2.2) o1) (_, _, _, _) h ?_
       rintro ⟨_ | k, a1, a2, a3⟩ h
       · simp only [laws_heldFrameS.l1] at h; exact h.none
       simp only [laws_heldFrameS.l1] at h
   ))
 | ((with_reducible refine fi 63 ?_ ?_); (focus (with_reducible assumption))
    first
    | (with_reducible refine here_loop (c := (.seq (.seq (.region 2 _ _) _) _)) ?_
       revert h
       with_reducible refine bind_elimY ?_
       intro o1 h hK
       refine lpA (β := (List (List Int)) × Int × Int) 10000000 (fun x => [(.s 0, some (.v (.d (.row .bor 1 (Rw (cL .bor 1 (cI .i64)) x.2.1))))), (.s 1, some (.v (V.int x.2.2.1))), (.s 5, some (.v (V.int x.2.2.2)))]) (fun x => Yes (laws_heldInt64SS.l1 x.1 x.2.1 x.2.2.1 x.2.2.2) o1) (_, _, _, _) h ?_
       rintro ⟨_ | k, a1, a2, a3⟩ h
       · simp only [laws_heldInt64SS.l1] at h; exact h.none
       simp only [laws_heldInt64SS.l1] at h
   ))
 | ((with_reducible refine fi 59 ?_ ?_); (focus (with_reducible assumption))
    first
    | (with_reducible refine here_loop (c := (.seq (.seq (.region 2 _ _) _) _)) ?_
       revert h
       with_reducible refine bind_elimY ?_
       intro o1 h hK
       refine sw_gh ?_
       (try (apply gh_resRow 0; (focus (simp only [putSt, lk, lkb, reduceCtorEq, Nat.reduceEqDiff]; try rfl)); (focus (first | (simp only [Rw_length, List.length_set]; omega) | (simp [Rw_length]; omega))); simp only [rxb, Nat.reduceAdd, Nat.reduceLeDiff, rxd, putSt, lk, lkb, reduceCtorEq, Nat.reduceEqDiff, *, mmb, GFrame_Dset, GI2_Dset, GFunc_Dset, LcIi64_Dset]))
       refine gh_sw ?_
       refine lpA (β := (List GFrame) × Int × Int) 10000000 (fun x => [(.s 0, some (.v (.sl 0 4 0 x.2.1.length))), (.s 1, some (.v (V.int x.2.2.1))), (.s 5, some (.v (V.int x.2.2.2))), (.r 0, some (.o 4 (dd (Rw (GFrame.cells .own) x.2.1))))]) (fun x => Yes (laws_markFrameS.l1 x.1 x.2.1 x.2.2.1 x.2.2.2) o1) (_, _, _, _) h ?_
       rintro ⟨_ | k, a1, a2, a3⟩ h
       · simp only [laws_markFrameS.l1] at h; exact h.none
       simp only [laws_markFrameS.l1] at h
   )
    | (with_reducible refine here_next (N0 := 10000000) ?_
       (try (apply gh_resRow 0; (focus (simp only [putSt, lk, lkb, reduceCtorEq, Nat.reduceEqDiff]; try rfl)); (focus (first | (simp only [Rw_length, List.length_set]; omega) | (simp [Rw_length]; omega))); simp only [rxb, Nat.reduceAdd, Nat.reduceLeDiff, rxd, putSt, lk, lkb, reduceCtorEq, Nat.reduceEqDiff, *, mmb, GFrame_Dset, GI2_Dset, GFunc_Dset, LcIi64_Dset]))
       refine nxA (_, _, _, _) h))
 | ((with_reducible refine fi 58 ?_ ?_); (focus (with_reducible assumption))
    first
    | (with_reducible refine here_loop (c := (.seq (.seq (.region 2 _ _) _) _)) ?_
       revert h
       with_reducible refine bind_elimY ?_
       intro o1 h hK
       refine sw_gh ?_
       (try (apply gh_resRow 0; (focus (simp only [putSt, lk, lkb, reduceCtorEq, Nat.reduceEqDiff]; try rfl)); (focus (first | (simp only [Rw_length, List.length_set]; omega) | (simp [Rw_length]; omega))); simp only [rxb, Nat.reduceAdd, Nat.reduceLeDiff, rxd, putSt, lk, lkb, reduceCtorEq, Nat.reduceEqDiff, *, mmb, GFrame_Dset, GI2_Dset, GFunc_Dset, LcIi64_Dset]))
       refine gh_sw ?_
       refine lpA (β := (List GFunc) × Int × Int) 10000000 (fun x => [(.s 0, some (.v (.sl 0 3 0 x.2.1.length))), (.s 1, some (.v (V.int x.2.2.1))), (.s 5, some (.v (V.int x.2.2.2))), (.r 0, some (.o 3 (dd (Rw (GFunc.cells .own) x.2.1))))]) (fun x => Yes (laws_markFuncS.l1 x.1 x.2.1 x.2.2.1 x.2.2.2) o1) (_, _, _, _) h ?_
       rintro ⟨_ | k, a1, a2, a3⟩ h
       · simp only [laws_markFuncS.l1] at h; exact h.none
       simp only [laws_markFuncS.l1] at h
   )
    | (with_reducible refine here_next (N0 := 10000000) ?_
       (try (apply gh_resRow 0; (focus (simp only [putSt, lk, lkb, reduceCtorEq, Nat.reduceEqDiff]; try rfl)); (focus (first | (simp only [Rw_length, List.length_set]; omega) | (simp [Rw_length]; omega))); simp only [rxb, Nat.reduceAdd, Nat.reduceLeDiff, rxd, putSt, lk, lkb, reduceCtorEq, Nat.reduceEqDiff, *, mmb, GFrame_Dset, GI2_Dset, GFunc_Dset, LcIi64_Dset]))
       refine nxA (_, _, _, _) h))
 | ((with_reducible refine fi 60 ?_ ?_); (focus (with_reducible assumption))
    first
    | (with_reducible refine here_loop (c := (.seq (.seq (.region 2 _ _) _) _)) ?_
       revert h
       with_reducible refine bind_elimY ?_
       intro o1 h hK
       refine sw_gh ?_
       (try (apply gh_resRow 0; (focus (simp only [putSt, lk, lkb, reduceCtorEq, Nat.reduceEqDiff]; try rfl)); (focus (first | (simp only [Rw_length, List.length_set]; omega) | (simp [Rw_length]; omega))); simp only [rxb, Nat.reduceAdd, Nat.reduceLeDiff, rxd, putSt, lk, lkb, reduceCtorEq, Nat.reduceEqDiff, *, mmb, GFrame_Dset, GI2_Dset, GFunc_Dset, LcIi64_Dset]))
       refine gh_sw ?_
       refine lpA (β := (List (List Int)) × Int × Int) 10000000 (fun x => [(.s 0, some (.v (.sl 0 1 0 x.2.1.length))), (.s 1, some (.v (V.int x.2.2.1))), (.s 5, some (.v (V.int x.2.2.2))), (.r 0, some (.o 1 (dd (Rw (cL .own 1 (cI .i64)) x.2.1))))]) (fun x => Yes (laws_markInt64SS.l1 x.1 x.2.1 x.2.2.1 x.2.2.2) o1) (_, _, _, _) h ?_
       rintro ⟨_ | k, a1, a2, a3⟩ h
       · simp only [laws_markInt64SS.l1] at h; exact h.none
       simp only [laws_markInt64SS.l1] at h
   )
    | (with_reducible refine here_next (N0 := 10000000) ?_
       (try (apply gh_resRow 0; (focus (simp only [putSt, lk, lkb, reduceCtorEq, Nat.reduceEqDiff]; try rfl)); (focus (first | (simp only [Rw_length, List.length_set]; omega) | (simp [Rw_length]; omega))); simp only [rxb, Nat.reduceAdd, Nat.reduceLeDiff, rxd, putSt, lk, lkb, reduceCtorEq, Nat.reduceEqDiff, *, mmb, GFrame_Dset, GI2_Dset, GFunc_Dset, LcIi64_Dset]))
       refine nxA (_, _, _, _) h))
 | ((with_reducible refine fi 48 ?_ ?_); (focus (with_reducible assumption))
    first
    | (with_reducible refine here_loop (c := (.seq (.seq (.region 5 _ _) _) _)) ?_
       revert h
       with_reducible refine bind_elimY ?_
       intro o1 h hK
       refine lpA (β := (List (List Int)) × Int × Int) 10000000 (fun x => [(.s 0, some (.v (.d (.row .bor 1 (Rw (cL .bor 1 (cI .i64)) x.2.1))))), (.s 1, some (.v (V.int x.2.2.1))), (.s 5, some (.v (V.int x.2.2.2)))]) (fun x => Yes (laws_szInt64SS.l1 x.1 x.2.1 x.2.2.1 x.2.2.2) o1) (_, _, _, _) h ?_
       rintro ⟨_ | k, a1, a2, a3⟩ h
       · simp only [laws_szInt64SS.l1] at h; exact h.none
       simp only [laws_szInt64SS.l1] at h
   ))
 | ((with_reducible refine fi 129 ?_ ?_); (focus (with_reducible assumption))
    first
    | (with_reducible refine here_loop (c := (.seq (.seq (.region 3 _ _) _) _)) ?_
       revert h
       with_reducible refine bind_elimY ?_
       intro o1 h hK
       refine lpA (β := (List GI2) × (List GI2) × Int) 10000000 (fun x => [(.s 0, some (.v (.d (.row .bor 2 (Rw GI2.cells x.2.2.1))))), (.s 3, some (.v (.sl 256 2 0 x.2.1.length))), (.s 4, some (.v (V.int x.2.2.2))), (.r 256, some (.o 2 (dd (Rw GI2.cells x.2.1))))]) (fun x => Yes (laws_toInsS.l1 x.1 x.2.1 x.2.2.1 x.2.2.2) o1) (_, _, _, _) h ?_
       rintro ⟨_ | k, a1, a2, a3⟩ h
       · simp only [laws_toInsS.l1] at h; exact h.none
       simp only [laws_toInsS.l1] at h
   ))
 | ((with_reducible refine fi 52 ?_ ?_); (focus (with_reducible assumption))
    first
    | (with_reducible refine here_loop (c := (.seq (.seq (.region 3 _ _) _) _)) ?_
       revert h
       with_reducible refine bind_elimY ?_
       intro o1 h hK
       refine sw_gh ?_
       (try (apply gh_zero (f := (cL .own 1 (cI .i64))) 256 []; (focus (simp only [putSt, lk, lkb, reduceCtorEq, Nat.reduceEqDiff]; try rfl)); (focus (exact .cons .nil (.nil)))))
       (try (apply gh_resRow 256; (focus (simp only [putSt, lk, lkb, reduceCtorEq, Nat.reduceEqDiff]; try rfl)); (focus (first | (simp only [Rw_length, List.length_set]; omega) | (simp [Rw_length]; omega))); simp only [rxb, Nat.reduceAdd, Nat.reduceLeDiff, rxd, putSt, lk, lkb, reduceCtorEq, Nat.reduceEqDiff, *, mmb, GFrame_Dset, GI2_Dset, GFunc_Dset, LcIi64_Dset]))
       refine gh_sw ?_
       refine lpA (β := (List (List Int)) × (List (List Int)) × Int) 10000000 (fun x => [(.s 0, some (.v (.d (.row .bor 1 (Rw (cL .bor 1 (cI .i64)) x.2.2.1))))), (.s 3, some (.v (.sl 256 1 0 x.2.1.length))), (.s 4, some (.v (V.int x.2.2.2))), (.r 256, some (.o 1 (dd (Rw (cL .own 1 (cI .i64)) x.2.1))))]) (fun x => Yes (laws_toInt64SS.l1 x.1 x.2.1 x.2.2.1 x.2.2.2) o1) (_, _, _, _) h ?_
       rintro ⟨_ | k, a1, a2, a3⟩ h
       · simp only [laws_toInt64SS.l1] at h; exact h.none
       simp only [laws_toInt64SS.l1] at h
   )
    | (with_reducible refine here_next (N0 := 10000000) ?_
       (try (apply gh_zero (f := (cL .own 1 (cI .i64))) 256 []; (focus (simp only [putSt, lk, lkb, reduceCtorEq, Nat.reduceEqDiff]; try rfl)); (focus (exact .cons .nil (.nil)))))
       (try (apply gh_resRow 256; (focus (simp only [putSt, lk, lkb, reduceCtorEq, Nat.reduceEqDiff]; try rfl)); (focus (first | (simp only [Rw_length, List.length_set]; omega) | (simp [Rw_length]; omega))); simp only [rxb, Nat.reduceAdd, Nat.reduceLeDiff, rxd, putSt, lk, lkb, reduceCtorEq, Nat.reduceEqDiff, *, mmb, GFrame_Dset, GI2_Dset, GFunc_Dset, LcIi64_Dset]))
       refine nxA (_, _, _, _) h))
 | (with_reducible refine here_next ?_
    first | refine nxA (_, _, _, _) h)
 | with_reducible refine sw_seq ?_
 | with_reducible refine seqQ_ret ?_
 | with_reducible refine seqQ_exit ?_
 | ((with_reducible refine fi 129 ?_ ?_); (focus (with_reducible assumption))
    first
    | (with_reducible refine gh_nilRow 2 .own 2 ?_ ?_
       · simp only [putSt, lk, lkb, reduceCtorEq, Nat.reduceEqDiff]; done
       skip))
 | ((with_reducible refine fi 52 ?_ ?_); (focus (with_reducible assumption))
    first
    | (with_reducible refine gh_nilRow 2 .own 1 ?_ ?_
       · simp only [putSt, lk, lkb, reduceCtorEq, Nat.reduceEqDiff]; done
       skip))
 | ((with_reducible refine wp_ite ?_ ?_)
    all_goals (intro hc; (try (simp only [Bool.not_eq_true, Bool.not_eq_false] at hc)); simp only [hc]))
 | (with_reducible refine rskip (hs := ?_) (h2 := ?_)
    · simp only [putSt, lk, lkb, reduceCtorEq, Nat.reduceEqDiff]; done)
 | (with_reducible refine ryes (hs := ?_) (h := ?_)
    · simp only [putSt, lk, lkb, reduceCtorEq, Nat.reduceEqDiff]; done)
 | (with_reducible refine rno (hs := ?_) (h := ?_)
    · simp only [putSt, lk, lkb, reduceCtorEq, Nat.reduceEqDiff, Bool.not_true, Bool.not_false]; done)
 | (with_reducible apply regW_guardN
    · simp only [dstOk, Nat.reduceLT]
    · rfl
    · simp only [putSt, lk, lkb, reduceCtorEq, Nat.reduceEqDiff]; rfl
    all_goals (intro hc; (try (simp only [Bool.not_true, Bool.not_false] at hc))))
 | (with_reducible apply sw_cond
    · simp only [putSt, lk, lkb, reduceCtorEq, Nat.reduceEqDiff]; rfl
    all_goals (intro hc; try (cases hc; done)))
 | ((first
     | ((with_reducible refine gh_ret ?_)
        revert h
        with_reducible refine some_elim ?_
        rintro rfl)
     | (with_reducible refine here_call ?_
        revert h
        with_reducible refine bind_elim ?_
        intro t ht h
        (first
          | ((first
              | ((with_reducible refine here_call (f := 64) ?_); refine call_dataE (c_laws_heldInt64S ht) ?_ rfl ?_)
              | ((with_reducible refine here_call (f := 49) ?_); refine call_dataE (c_laws_szInt64S ht) ?_ rfl ?_)
              | ((with_reducible refine here_call (f := 128) ?_); refine call_dataE (c_laws_szInsS ht) ?_ rfl ?_)
              | ((with_reducible refine here_call (f := 53) ?_); refine call_dataE (c_laws_toInt64S ht) ?_ rfl ?_)
              | ((with_reducible refine here_call (f := 144) ?_); refine call_dataE (c_laws_toIns ht) ?_ rfl ?_))
             · first | rfl | (simp; done))
          | ((first
              | ((with_reducible refine here_call (f := 61) ?_); refine call_obj [10001664] (c_laws_markInt64S ht) (by decide) ?_ ?_)
              | ((with_reducible refine here_call (f := 97) ?_); refine call_obj [10001664] (c_laws_markInsS ht) (by decide) ?_ ?_))
             · first | exact .inl rfl | (refine .inr ⟨?_, ?_⟩; (focus (first | rfl | (simp only [nbd, nbb, GFrame_nb, GI2_nb, GFunc_nb, LcIi64_nb]; done))); (focus (simp [C.nb, V.nbLL, V.nbL, V.nb, D.nb]; done)))
             simp only [obd, hyb, hyd, GFrame_lend, GI2_lend, GFunc_lend, LcIi64_lend, putSt, lk, lkb, reduceCtorEq, Nat.reduceEqDiff, Prog.wp, Prog.wp_bind, Prog.bind, Prog.ofO, List.take_of_length_le, *])
          | ((with_reducible refine here_call (f := 61) ?_); refine call_obj [10002176] (c_laws_markInt64S ht) (by decide) ?_ ?_
             · first | exact .inl rfl | (refine .inr ⟨?_, ?_⟩; (focus (first | rfl | (simp only [nbd, nbb, GFrame_nb, GI2_nb, GFunc_nb, LcIi64_nb]; done))); (focus (simp [C.nb, V.nbLL, V.nbL, V.nb, D.nb]; done)))
             simp only [obd, hyb, hyd, GFrame_lend, GI2_lend, GFunc_lend, LcIi64_lend, putSt, lk, lkb, reduceCtorEq, Nat.reduceEqDiff, Prog.wp, Prog.wp_bind, Prog.bind, Prog.ofO, List.take_of_length_le, *])
          | ((with_reducible refine here_call (f := 61) ?_); refine call_obj [10000448] (c_laws_markInt64S ht) (by decide) ?_ ?_
             · first | exact .inl rfl | (refine .inr ⟨?_, ?_⟩; (focus (first | rfl | (simp only [nbd, nbb, GFrame_nb, GI2_nb, GFunc_nb, LcIi64_nb]; done))); (focus (simp [C.nb, V.nbLL, V.nbL, V.nb, D.nb]; done)))
             simp only [obd, hyb, hyd, GFrame_lend, GI2_lend, GFunc_lend, LcIi64_lend, putSt, lk, lkb, reduceCtorEq, Nat.reduceEqDiff, Prog.wp, Prog.wp_bind, Prog.bind, Prog.ofO, List.take_of_length_le, *])))
     | (with_reducible (first | refine ropD (h := ?_) | refine ropW (h := ?_))
        intro k hk)
     | skip)
    simp only [RetW, bn, lkb, evb, opC, opP, fetchN, fetchP, fetchAll, fetchO, Prog.bind, Prog.wp, Prog.wp_bind, lk, nameP, nameAll, Value.oneCell', putSt, stepP, putP, reduceCtorEq, V.lin, V.linL, D.lin, isNil, binP, unP, BinOp.isShift, Prog.ofO, Nat.reduceAdd, Nat.reduceMul, Nat.reduceSub, Nat.reduceLT, Nat.reduceLeDiff, Nat.reduceEqDiff, ite_true, ite_false, fieldAddrP, fieldP, indexAddrP, loadP, storeP, boxP, allocP, cellsP, asVal, setSeg, outP, outT, cntT, TyK.field, TyK.agg, zeroRow, V.ren, V.renL, forall_eq_or_imp, forall_const, minmaxP, lenP, lenOf, lenStr, V.asInt, decide_true, decide_false, sliceP, boundP, makeSliceP, convertP, appendP, rowsOfP, ontoP, sizeFits, V.rowSize, TyK.src, resV, resV.go, resV.gol, retP, retOne, retAll, resTo, objsAre, Option.map_eq_map, Function.const_apply, Int.reduceNeg, Int.reduceToNat, ty2, ty3, ty23, ty26, ty27, ty28, ty56, ty92, ty94, ty98, ty129, ty131, ty133, ty183, GFrame.cells, GFunc.cells, GI2.cells, cI, cB, cS, cL, GFrame_e, GI2_e, GFunc_e, LcIi64_e, nilEqP, ne_eq, not_false_eq_true, not_true_eq_false, *]
    try (refine hk.use _ _ _ _ ?_; clear hk k))
 | fail)
  all_goals (try rfl)
  all_goals (try (simp; done))
  all_goals (try (simp_all; done))
def c_laws_heldFrameS := @And.left _ _ gs14
def c_laws_heldInt64SS := @And.left _ _ (@And.right _ _ gs14)
def c_laws_markFrameS := @And.left _ _ (@And.right _ _ (@And.right _ _ gs14))
def c_laws_markFuncS := @And.left _ _ (@And.right _ _ (@And.right _ _ (@And.right _ _ gs14)))
def c_laws_markInt64SS := @And.left _ _ (@And.right _ _ (@And.right _ _ (@And.right _ _ (@And.right _ _ gs14))))
def c_laws_szFrame := @And.left _ _ (@And.right _ _ (@And.right _ _ (@And.right _ _ (@And.right _ _ (@And.right _ _ gs14)))))
def c_laws_szFunc := @And.left _ _ (@And.right _ _ (@And.right _ _ (@And.right _ _ (@And.right _ _ (@And.right _ _ (@And.right _ _ gs14))))))
def c_laws_szInt64SS := @And.left _ _ (@And.right _ _ (@And.right _ _ (@And.right _ _ (@And.right _ _ (@And.right _ _ (@And.right _ _ (@And.right _ _ gs14)))))))
def c_laws_toFrame := @And.left _ _ (@And.right _ _ (@And.right _ _ (@And.right _ _ (@And.right _ _ (@And.right _ _ (@And.right _ _ (@And.right _ _ (@And.right _ _ gs14))))))))
def c_laws_toInsS := @And.left _ _ (@And.right _ _ (@And.right _ _ (@And.right _ _ (@And.right _ _ (@And.right _ _ (@And.right _ _ (@And.right _ _ (@And.right _ _ (@And.right _ _ gs14)))))))))
def c_laws_toInt64SS := (@And.right _ _ (@And.right _ _ (@And.right _ _ (@And.right _ _ (@And.right _ _ (@And.right _ _ (@And.right _ _ (@And.right _ _ (@And.right _ _ (@And.right _ _ gs14))))))))))
end Go.Proofs.YtdlaplgofgklnaaGreat