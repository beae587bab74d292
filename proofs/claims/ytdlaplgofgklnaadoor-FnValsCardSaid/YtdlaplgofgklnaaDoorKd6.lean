/- WHAT IS PROVED: an abstract walker over the model, what some functions of the program answer, and laws of these answers. Conditions: none. -/
import Derived.Test.YtdlaplgofgklnaaDoorKd5
namespace Go.Proofs.YtdlaplgofgklnaaDoor
open Go.Proofs Go.Proofs.YtdlaplgofgklnaaDoor.L
set_option maxHeartbeats 8000000
set_option linter.unusedSimpArgs false
set_option linter.unusedVariables false
set_option maxRecDepth 100000
set_option linter.defProp false
def impl_OpName (p0 : Int) : Option (ByteArray) :=
  (impl_in p0 0 38).bind fun t1 => cond ((!t1)) (some ((⟨#[]⟩ : ByteArray))) ((impl_opNames).bind fun t2 => (idx t2 p0).bind fun m3 => some m3)
def impl_digits (p0 : Int) : Option (ByteArray) :=
  (strconv_FormatInt p0 10).bind fun t1 => some t1
def impl_isArith (p0 : Int) : Option (Bool) :=
  (impl_in p0 10 29).bind fun t1 => some t1
def impl_isBinary (p0 : Int) : Option (Bool) :=
  (impl_in p0 10 23).bind fun t1 => some t1
def impl_isLoc (p0 : Int) : Option (Bool) :=
  (impl_in p0 0 21).bind fun t1 => some t1
def impl_isUnary (p0 : Int) : Option (Bool) :=
  (impl_in p0 24 29).bind fun t1 => some t1
def spec_InsRight.a1 (k : Nat) (a1 : (List GFunc)) (a2 : GI2) (a3 : Int) : Option ((Bool) ⊕ ((List GFunc) × GI2 × Int)) :=
  cond ((decide (a3 < 0))) (some (.inl (false))) (cond ((decide (a3 ≥ ((a1.length : Int))))) (some (.inl (false))) (some (.inr (a1, a2, a3))))
def spec_InsRight.a3 (k : Nat) (a1 : (List GFunc)) (a2 : GI2) (a3 : Int) (a4 : Int) : Option ((List GFunc) × GI2 × Int × Int × Bool) :=
  cond ((a4 == 2)) (some (a1, a2, a3, a4, true)) (some (a1, a2, a3, a4, (a4 == 3)))
def spec_InsRight.a4 (k : Nat) (a1 : (List GFunc)) (a2 : GI2) (a3 : Int) (a4 : Int) : Option ((List GFunc) × GI2 × Int × Int × Bool) :=
  cond ((a4 == 30)) (some (a1, a2, a3, a4, true)) (some (a1, a2, a3, a4, (a4 == 31)))
def spec_InsRight.a2 (k : Nat) (a1 : (List GFunc)) (a2 : GI2) (a3 : Int) : Option ((Bool) ⊕ (GI2)) :=
  cond ((a2.a == 1)) (some (.inl (true))) ((spec_InsRight.a3 k a1 a2 a3 a2.a).bind fun o3 => cond o3.2.2.2.2 (cond ((decide (o3.2.1.b ≥ 0))) ((idx o3.1 o3.2.2.1).bind fun m1 => some (.inl ((decide (o3.2.1.b < m1.locals))))) (some (.inl (false)))) ((spec_InsRight.a4 k o3.1 o3.2.1 o3.2.2.1 o3.2.2.2.1).bind fun o4 => cond o4.2.2.2.2 (cond ((decide (o4.2.1.b ≥ 0))) ((idx o4.1 o4.2.2.1).bind fun m2 => some (.inl ((decide (o4.2.1.b < ((m2.code.length : Int))))))) (some (.inl (false)))) (cond ((o4.2.2.2.1 == 32)) (cond ((decide (o4.2.1.b ≥ 0))) (some (.inl ((decide (o4.2.1.b < ((o4.1.length : Int))))))) (some (.inl (false)))) (some (.inr (o4.2.1))))))
def spec_InsRight (k : Nat) (p0 : GProgram) (p1 : Int) (p2 : GI2) : Option (Bool) :=
  (spec_InsRight.a1 k p0.funcs p2 p1).bind fun o1 => Sum.elim (fun o1l => some o1l) (fun o1r => (spec_InsRight.a2 k o1r.1 o1r.2.1 o1r.2.2).bind fun o2 => Sum.elim (fun o2l => some o2l) (fun o2r => (spec_OpName k o2r.a).bind fun t3 => cond ((!(t3.toList == ((⟨#[]⟩ : ByteArray)).toList))) (some ((o2r.b == 0))) (some false)) o2) o1
def spec_Puts.a1 (k : Nat) (a1 : GI2) : Option ((Int) ⊕ (GI2)) :=
  (spec_l03Binary a1.a).bind fun t1 => cond t1 (some (.inl (1))) ((spec_l03Unary a1.a).bind fun t2 => cond t2 (some (.inl (1))) (some (.inr (a1))))
def spec_Puts (k : Nat) (p0 : GI2) : Option (Int) :=
  (spec_Puts.a1 k p0).bind fun o1 => Sum.elim (fun o1l => some o1l) (fun o1r => cond ((o1r.a == 4)) (some 2) (cond ((o1r.a == 1)) (some 1) (cond ((o1r.a == 2)) (some 1) (cond ((o1r.a == 32)) (some 1) (cond ((o1r.a == 34)) (some 1) (cond ((o1r.a == 35)) (some 1) (cond ((o1r.a == 37)) (some 1) (some 0)))))))) o1
def spec_Takes.a2 (k : Nat) (a1 : (List GFunc)) (a2 : GI2) : Option ((List GFunc) × GI2 × Bool) :=
  (spec_l03Binary a2.a).bind fun t1 => cond t1 (some (a1, a2, true)) (some (a1, a2, (a2.a == 35)))
def spec_Takes.a1 (k : Nat) (a1 : (List GFunc)) (a2 : GI2) : Option ((Int) ⊕ (GI2)) :=
  (spec_Takes.a2 k a1 a2).bind fun o2 => cond o2.2.2 (some (.inl (2))) (cond ((o2.2.1.a == 36)) (some (.inl (3))) (cond ((o2.2.1.a == 32)) (cond ((decide (o2.2.1.b < 0))) (some (.inl (0))) (cond ((decide (o2.2.1.b ≥ ((o2.1.length : Int))))) (some (.inl (0))) ((idx o2.1 o2.2.1.b).bind fun m2 => some (.inl (m2.args))))) ((spec_l03Unary o2.2.1.a).bind fun t3 => cond t3 (some (.inl (1))) (some (.inr (o2.2.1))))))
def spec_Takes (k : Nat) (p0 : GProgram) (p1 : GI2) : Option (Int) :=
  (spec_Takes.a1 k p0.funcs p1).bind fun o1 => Sum.elim (fun o1l => some o1l) (fun o1r => cond ((o1r.a == 3)) (some 1) (cond ((o1r.a == 4)) (some 1) (cond ((o1r.a == 5)) (some 1) (cond ((o1r.a == 31)) (some 1) (cond ((o1r.a == 33)) (some 1) (cond ((o1r.a == 34)) (some 1) (cond ((o1r.a == 37)) (some 1) (cond ((o1r.a == 38)) (some 1) (some 0))))))))) o1
theorem g3 : (∀ {p0 : Int} {r : ByteArray}, impl_OpName p0 = some r → Con Tryd.prog 30 [V.int p0] [] (.d (.p (.string r))) []) ∧
  (∀ {p0 : Int} {r : ByteArray}, impl_digits p0 = some r → Con Tryd.prog 29 [V.int p0] [] (.d (.p (.string r))) []) ∧
  (∀ {p0 : Int} {r : Bool}, impl_isArith p0 = some r → Con Tryd.prog 69 [V.int p0] [] (V.bool r) []) ∧
  (∀ {p0 : Int} {r : Bool}, impl_isBinary p0 = some r → Con Tryd.prog 67 [V.int p0] [] (V.bool r) []) ∧
  (∀ {p0 : Int} {r : Bool}, impl_isLoc p0 = some r → Con Tryd.prog 34 [V.int p0] [] (V.bool r) []) ∧
  (∀ {p0 : Int} {r : Bool}, impl_isUnary p0 = some r → Con Tryd.prog 68 [V.int p0] [] (V.bool r) []) ∧
  (∀ {k : Nat} {p0 : GProgram} {p1 : Int} {p2 : GI2} {r : Bool}, spec_InsRight k p0 p1 p2 = some r → Con Tryd.prog 52 [.agg [.d (.row .bor 3 (Rw (GFunc.cells .bor) p0.funcs))], V.int p1, .agg [V.int p2.a, V.int p2.b]] [] (V.bool r) []) ∧
  (∀ {k : Nat} {p0 : GI2} {r : Int}, spec_Puts k p0 = some r → Con Tryd.prog 66 [.agg [V.int p0.a, V.int p0.b]] [] (V.int r) []) ∧
  (∀ {k : Nat} {p0 : GProgram} {p1 : GI2} {r : Int}, spec_Takes k p0 p1 = some r → Con Tryd.prog 65 [.agg [.d (.row .bor 3 (Rw (GFunc.cells .bor) p0.funcs))], .agg [V.int p1.a, V.int p1.b]] [] (V.int r) []) := by
  refine ⟨?_, ?_, ?_, ?_, ?_, ?_, ?_, ?_, ?_⟩
  all_goals intros
  all_goals rename_i h
  all_goals first
    | (with_reducible refine isf 30 ?_
       refine csw Tryd.func30 Tryd.call30 (by simp [Tryd.ntmps30]) (h := ?_)
       refine mkf 30 fun hF => ?_
       rw [Tryd.ntmps30, Tryd.results30]
       unfold impl_OpName at h)
    | (with_reducible refine isf 29 ?_
       refine csw Tryd.func29 Tryd.call29 (by simp [Tryd.ntmps29]) (h := ?_)
       refine mkf 29 fun hF => ?_
       rw [Tryd.ntmps29, Tryd.results29]
       unfold impl_digits at h)
    | (with_reducible refine isf 69 ?_
       refine csw Tryd.func69 Tryd.call69 (by simp [Tryd.ntmps69]) (h := ?_)
       refine mkf 69 fun hF => ?_
       rw [Tryd.ntmps69, Tryd.results69]
       unfold impl_isArith at h)
    | (with_reducible refine isf 67 ?_
       refine csw Tryd.func67 Tryd.call67 (by simp [Tryd.ntmps67]) (h := ?_)
       refine mkf 67 fun hF => ?_
       rw [Tryd.ntmps67, Tryd.results67]
       unfold impl_isBinary at h)
    | (with_reducible refine isf 34 ?_
       refine csw Tryd.func34 Tryd.call34 (by simp [Tryd.ntmps34]) (h := ?_)
       refine mkf 34 fun hF => ?_
       rw [Tryd.ntmps34, Tryd.results34]
       unfold impl_isLoc at h)
    | (with_reducible refine isf 68 ?_
       refine csw Tryd.func68 Tryd.call68 (by simp [Tryd.ntmps68]) (h := ?_)
       refine mkf 68 fun hF => ?_
       rw [Tryd.ntmps68, Tryd.results68]
       unfold impl_isUnary at h)
    | (with_reducible refine isf 52 ?_
       refine csw Tryd.func52 Tryd.call52 (by simp [Tryd.ntmps52]) (h := ?_)
       refine mkf 52 fun hF => ?_
       rw [Tryd.ntmps52, Tryd.results52]
       unfold spec_InsRight at h)
    | (with_reducible refine isf 66 ?_
       refine csw Tryd.func66 Tryd.call66 (by simp [Tryd.ntmps66]) (h := ?_)
       refine mkf 66 fun hF => ?_
       rw [Tryd.ntmps66, Tryd.results66]
       unfold spec_Puts at h)
    | (with_reducible refine isf 65 ?_
       refine csw Tryd.func65 Tryd.call65 (by simp [Tryd.ntmps65]) (h := ?_)
       refine mkf 65 fun hF => ?_
       rw [Tryd.ntmps65, Tryd.results65]
       unfold spec_Takes at h)
  all_goals (replace h := Yes.mk h; simp only [entryS, entryO, Nat.reduceAdd, List.length_nil, List.length_cons])
  repeat' (first
 | (with_reducible (first | refine sw_reg ?_ | refine sw_ret ?_ | refine sw_skip ?_ | refine sw_block ?_ | refine sw_exit ?_ | refine seqQ_normal ?_ | refine blockQ_normal ?_ | refine blockQ_ret ?_ | refine blockQ_this ?_ | refine blockQ_other (by decide) ?_ | refine regW_nil ?_ | refine sw_draw mixed ?_ | refine retQ_ret ?_ | refine retQ_normal ?_))
 | (with_reducible refine regD_nil ?_
    refine ⟨by kernel_rfl, ?_⟩)
 | (revert h; (first | ((with_reducible refine idx_elim ?_); intro m hm1 hm2 hm3 h; (try (simp only [Int.reduceToNat] at hm3)); (try (revert hm3; (with_reducible apply same_elim); (focus (with_reducible assumption)); rintro rfl)); (try (simp only [List.length_set, List.length_cons, List.length_nil, List.length_replicate, Nat.reduceAdd, Int.cast_ofNat_Int, Nat.zero_add, List.length_append] at hm2))) | (with_reducible refine sidx_elim ?_; intro m hm1 hm3 h) | (with_reducible refine gd_elim ?_; intro hg h; try (have hg2 := hg.2; have hg := hg.1; (try (simp only [Nat.reduceLeDiff] at hg2)); (try (revert hg2; (with_reducible refine toNat_elim hg ?_); intro hg2 hg4)); try (have hg3 := hg2.2; have hg2 := hg2.1; (try (simp only [Nat.reduceLeDiff] at hg3))))) | (with_reducible refine condt_elim ?_ ?_; (focus (with_reducible assumption)); intro h) | (with_reducible refine condf_elim ?_ ?_; (focus (with_reducible assumption)); intro h)))
 | ((with_reducible first | refine pnR ?_ | refine pnE ?_ | refine pmR ?_ | refine pmE ?_)
    obtain rfl := h.get
    have h := hK
    clear hK
    (try (simp only [Sum.elim_inl, Sum.elim_inr] at h)))
 | ((with_reducible refine fi 52 ?_ ?_); (focus (with_reducible assumption))
    first
    | (with_reducible refine here_join (a := (.seq (.region 9 _ _) _)) (b := (.cond (.tmp 37) _ _)) ?_
       revert h
       with_reducible refine bind_elimY ?_
       intro o4 h hK
       unfold spec_InsRight.a4 at h
       refine sw_join (ι := (List GFunc) × GI2 × Int × Int × Bool) 40000000 (fun x => [(.s 1, some (.v (V.int x.2.2.1))), (.s 3, some (.v (.mp 0 1 0 0))), (.s 5, some (.v (.mp 64 2 0 0))), (.s 17, some (.v (V.int x.2.2.2.1))), (.s 37, some (.v (V.bool x.2.2.2.2))), (.r 0, some (.o 1 [[.d (.row .bor 3 (Rw (GFunc.cells .bor) x.1))]])), (.r 64, some (.o 2 [[V.int x.2.1.a, V.int x.2.1.b]]))]) (fun x => Yes (some (x)) o4) ?_ ?_
       rotate_left
       rintro ⟨b1, b2, b3, b4, b5⟩ h
       obtain rfl := h.get
       have h := hK
       clear hK
       (try (simp only [Sum.elim_inl, Sum.elim_inr] at h))
       refine sw_gh ?_
       refine gh_sw ?_)
    | (with_reducible refine here_join (a := (.seq (.region 6 _ _) _)) (b := (.cond (.tmp 20) _ _)) ?_
       revert h
       with_reducible refine bind_elimY ?_
       intro o3 h hK
       unfold spec_InsRight.a3 at h
       refine sw_join (ι := (List GFunc) × GI2 × Int × Int × Bool) 30000000 (fun x => [(.s 1, some (.v (V.int x.2.2.1))), (.s 3, some (.v (.mp 0 1 0 0))), (.s 5, some (.v (.mp 64 2 0 0))), (.s 17, some (.v (V.int x.2.2.2.1))), (.s 20, some (.v (V.bool x.2.2.2.2))), (.r 0, some (.o 1 [[.d (.row .bor 3 (Rw (GFunc.cells .bor) x.1))]])), (.r 64, some (.o 2 [[V.int x.2.1.a, V.int x.2.1.b]]))]) (fun x => Yes (some (x)) o3) ?_ ?_
       rotate_left
       rintro ⟨b1, b2, b3, b4, b5⟩ h
       obtain rfl := h.get
       have h := hK
       clear hK
       (try (simp only [Sum.elim_inl, Sum.elim_inr] at h))
       refine sw_gh ?_
       refine gh_sw ?_)
    | (with_reducible refine here_join (a := (.seq (.region 3 _ _) _)) (b := (.seq (.region 14 _ _) _)) ?_
       revert h
       with_reducible refine bind_elimY ?_
       intro o2 h hK
       unfold spec_InsRight.a2 at h
       refine sw_join (ι := GI2) 20000000 (fun x => [(.s 5, some (.v (.mp 64 2 0 0))), (.r 64, some (.o 2 [[V.int x.a, V.int x.b]]))]) (fun x => Yes (some (.inr x)) o2) ?_ ?_
       rotate_left
       rintro b1 h
       obtain rfl := h.get
       have h := hK
       clear hK
       (try (simp only [Sum.elim_inl, Sum.elim_inr] at h))
       refine sw_gh ?_
       refine gh_sw ?_)
    | (with_reducible refine here_join (a := (.seq (.region 1 _ _) _)) (b := (.seq (.seq (.region 3 _ _) _) _)) ?_
       revert h
       with_reducible refine bind_elimY ?_
       intro o1 h hK
       unfold spec_InsRight.a1 at h
       refine sw_join (ι := (List GFunc) × GI2 × Int) 10000000 (fun x => [(.s 1, some (.v (V.int x.2.2))), (.s 3, some (.v (.mp 0 1 0 0))), (.s 5, some (.v (.mp 64 2 0 0))), (.r 0, some (.o 1 [[.d (.row .bor 3 (Rw (GFunc.cells .bor) x.1))]])), (.r 64, some (.o 2 [[V.int x.2.1.a, V.int x.2.1.b]]))]) (fun x => Yes (some (.inr x)) o1) ?_ ?_
       rotate_left
       rintro ⟨b1, b2, b3⟩ h
       obtain rfl := h.get
       have h := hK
       clear hK
       (try (simp only [Sum.elim_inl, Sum.elim_inr] at h))
       refine sw_gh ?_
       refine gh_sw ?_))
 | ((with_reducible refine fi 66 ?_ ?_); (focus (with_reducible assumption))
    first
    | (with_reducible refine here_join (a := (.seq (.region 1 _ _) _)) (b := (.seq (.seq (.region 3 _ _) _) _)) ?_
       revert h
       with_reducible refine bind_elimY ?_
       intro o1 h hK
       unfold spec_Puts.a1 at h
       refine sw_join (ι := GI2) 10000000 (fun x => [(.s 1, some (.v (.mp 0 2 0 0))), (.r 0, some (.o 2 [[V.int x.a, V.int x.b]]))]) (fun x => Yes (some (.inr x)) o1) ?_ ?_
       rotate_left
       rintro b1 h
       obtain rfl := h.get
       have h := hK
       clear hK
       (try (simp only [Sum.elim_inl, Sum.elim_inr] at h))
       refine sw_gh ?_
       refine gh_sw ?_))
 | ((with_reducible refine fi 65 ?_ ?_); (focus (with_reducible assumption))
    first
    | (with_reducible refine here_join (a := (.region 1 _ _)) (b := (.cond (.tmp 5) _ _)) ?_
       revert h
       with_reducible refine bind_elimY ?_
       intro o2 h hK
       unfold spec_Takes.a2 at h
       refine sw_join (ι := (List GFunc) × GI2 × Bool) 20000000 (fun x => [(.s 2, some (.v (.mp 0 1 0 0))), (.s 3, some (.v (.mp 64 2 0 0))), (.s 5, some (.v (V.bool x.2.2))), (.r 0, some (.o 1 [[.d (.row .bor 3 (Rw (GFunc.cells .bor) x.1))]])), (.r 64, some (.o 2 [[V.int x.2.1.a, V.int x.2.1.b]]))]) (fun x => Yes (some (x)) o2) ?_ ?_
       rotate_left
       rintro ⟨b1, b2, b3⟩ h
       obtain rfl := h.get
       have h := hK
       clear hK
       (try (simp only [Sum.elim_inl, Sum.elim_inr] at h))
       refine sw_gh ?_
       refine gh_sw ?_)
    | (with_reducible refine here_join (a := (.block 0 _)) (b := (.seq (.seq (.region 11 _ _) _) _)) ?_
       revert h
       with_reducible refine bind_elimY ?_
       intro o1 h hK
       unfold spec_Takes.a1 at h
       refine sw_join (ι := GI2) 10000000 (fun x => [(.s 3, some (.v (.mp 64 2 0 0))), (.r 64, some (.o 2 [[V.int x.a, V.int x.b]]))]) (fun x => Yes (some (.inr x)) o1) ?_ ?_
       rotate_left
       rintro b1 h
       obtain rfl := h.get
       have h := hK
       clear hK
       (try (simp only [Sum.elim_inl, Sum.elim_inr] at h))
       refine sw_gh ?_
       refine gh_sw ?_))
 | (with_reducible refine here_meet ?_
    first | refine mtA _ h | refine mtA (_, _, _) h | refine mtA (_, _, _, _, _) h)
 | with_reducible refine sw_seq ?_
 | with_reducible refine seqQ_ret ?_
 | with_reducible refine seqQ_exit ?_
 | ((with_reducible refine wp_ite ?_ ?_)
    all_goals (intro hc; (try (simp only [Bool.not_eq_true, Bool.not_eq_false] at hc)); simp only [hc]))
 | (with_reducible refine rskip (hs := ?_) (h2 := ?_)
    · simp only [putSt, lk, lkb, reduceCtorEq, Nat.reduceEqDiff]; done)
 | (with_reducible refine ryes (hs := ?_) (h := ?_)
    · simp only [putSt, lk, lkb, reduceCtorEq, Nat.reduceEqDiff]; done)
 | (with_reducible refine rno (hs := ?_) (h := ?_)
    · simp only [putSt, lk, lkb, reduceCtorEq, Nat.reduceEqDiff, Bool.not_true, Bool.not_false]; done)
 | (with_reducible apply regW_guardN
    · simp only [dstOk, Nat.reduceLT]
    · rfl
    · simp only [putSt, lk, lkb, reduceCtorEq, Nat.reduceEqDiff]; rfl
    all_goals (intro hc; (try (simp only [Bool.not_true, Bool.not_false] at hc))))
 | (with_reducible apply sw_cond
    · simp only [putSt, lk, lkb, reduceCtorEq, Nat.reduceEqDiff]; rfl
    all_goals (intro hc; try (cases hc; done)))
 | ((first
     | ((with_reducible refine gh_ret ?_)
        revert h
        with_reducible refine some_elim ?_
        rintro rfl)
     | (with_reducible refine here_call ?_
        revert h
        with_reducible refine bind_elim ?_
        intro t ht h
        (first
          | ((first
              | ((with_reducible refine here_call (f := 42) ?_); refine call_dataE (c_impl_in ht) ?_ rfl ?_)
              | ((with_reducible refine here_call (f := 43) ?_); refine call_dataE (c_impl_opNames ht) ?_ rfl ?_)
              | ((with_reducible refine here_call (f := 41) ?_); refine call_dataE (c_strconv_FormatInt ht) ?_ rfl ?_)
              | ((with_reducible refine here_call (f := 25) ?_); refine call_dataE (c_spec_OpName ht) ?_ rfl ?_)
              | ((with_reducible refine here_call (f := 75) ?_); refine call_dataE (c_spec_l03Binary ht) ?_ rfl ?_)
              | ((with_reducible refine here_call (f := 76) ?_); refine call_dataE (c_spec_l03Unary ht) ?_ rfl ?_))
             · first | rfl | (simp; done))))
     | (with_reducible (first | refine ropD (h := ?_) | refine ropW (h := ?_))
        intro k hk)
     | skip)
    simp only [RetW, bn, lkb, evb, opC, opP, fetchN, fetchP, fetchAll, fetchO, Prog.bind, Prog.wp, Prog.wp_bind, lk, nameP, nameAll, Value.oneCell', putSt, stepP, putP, reduceCtorEq, V.lin, V.linL, D.lin, isNil, binP, unP, BinOp.isShift, Prog.ofO, Nat.reduceAdd, Nat.reduceMul, Nat.reduceSub, Nat.reduceLT, Nat.reduceLeDiff, Nat.reduceEqDiff, ite_true, ite_false, fieldAddrP, fieldP, indexAddrP, loadP, storeP, boxP, allocP, cellsP, asVal, setSeg, outP, outT, cntT, TyK.field, TyK.agg, zeroRow, V.ren, V.renL, forall_eq_or_imp, forall_const, minmaxP, lenP, lenOf, lenStr, V.asInt, decide_true, decide_false, sliceP, boundP, makeSliceP, convertP, appendP, rowsOfP, ontoP, sizeFits, V.rowSize, TyK.src, resV, resV.go, resV.gol, retP, retOne, retAll, resTo, objsAre, Option.map_eq_map, Function.const_apply, Int.reduceNeg, Int.reduceToNat, ty2, ty3, ty4, ty9, ty36, ty38, ty52, ty54, ty56, ty74, GFunc.cells, GI2.cells, GProgram.cells, cI, cB, cS, cL, GI2_e, GFunc_e, GProgram_e, bst, *]
    try (refine hk.use _ _ _ _ ?_; clear hk k))
 | fail)
  all_goals (try rfl)
  all_goals (try (simp; done))
  all_goals (try (simp_all; done))
def c_impl_OpName := @And.left _ _ g3
def c_impl_digits := @And.left _ _ (@And.right _ _ g3)
def c_impl_isArith := @And.left _ _ (@And.right _ _ (@And.right _ _ g3))
def c_impl_isBinary := @And.left _ _ (@And.right _ _ (@And.right _ _ (@And.right _ _ g3)))
def c_impl_isLoc := @And.left _ _ (@And.right _ _ (@And.right _ _ (@And.right _ _ (@And.right _ _ g3))))
def c_impl_isUnary := @And.left _ _ (@And.right _ _ (@And.right _ _ (@And.right _ _ (@And.right _ _ (@And.right _ _ g3)))))
def c_spec_InsRight := @And.left _ _ (@And.right _ _ (@And.right _ _ (@And.right _ _ (@And.right _ _ (@And.right _ _ (@And.right _ _ g3))))))
def c_spec_Puts := @And.left _ _ (@And.right _ _ (@And.right _ _ (@And.right _ _ (@And.right _ _ (@And.right _ _ (@And.right _ _ (@And.right _ _ g3)))))))
def c_spec_Takes := (@And.right _ _ (@And.right _ _ (@And.right _ _ (@And.right _ _ (@And.right _ _ (@And.right _ _ (@And.right _ _ (@And.right _ _ g3))))))))
set_option linter.defProp false
def spec_l01Src_edge (k : Nat) (p0 : Gl01Src) : Option (Int × Gl01Src) :=
  (spec_l01Src_n k p0 14).bind fun t1 => (idx ([0, 1, (-1), 2, 1000, 1001, 2147483648, 2147483647, (-2147483648), 4611686018427387904, 9223372036854775807, (-9223372036854775808), 1000000, 1000001]) t1.1).bind fun m2 => some (m2, t1.2)
def spec_l01Src_l10AnyVal (k : Nat) (p0 : Gl01Src) : Option (GI2 × Gl01Src) :=
  (spec_l01Src_n k p0 4).bind fun t1 => cond ((t1.1 == 0)) ((spec_l01Src_n k t1.2 5).bind fun t2 => some ((⟨2, (IntKind.i64.wrap (t2.1 - 1))⟩ : GI2), t2.2)) (cond ((t1.1 == 1)) ((spec_l01Src_n k t1.2 4).bind fun t3 => (spec_l01Src_n k t3.2 2).bind fun t4 => (spec_l01Src_n k t4.2 3).bind fun t5 => some ((⟨(IntKind.i64.wrap (((IntKind.i64.wrap (t3.1 - 1))) + t4.1)), t5.1⟩ : GI2), t5.2)) ((spec_l01Src_n k t1.2 23).bind fun t6 => some ((⟨1, t6.1⟩ : GI2), t6.2)))
def spec_l01Src_one (k : Nat) (p0 : Gl01Src) (p1 : Int) : Option (Bool × Gl01Src) :=
  (spec_l01Src_n k p0 p1).bind fun t1 => some ((t1.1 == 0), t1.2)
def spec_l10Val (p0 : GI2) : Option (Bool) :=
  cond ((p0.a == 0)) (some ((p0.b == 0))) (cond ((p0.a == 1)) ((spec_l10Loc p0.b).bind fun t1 => some t1) (some ((p0.a == 2))))
def laws_eqInsS.l1 : Nat → (List GI2) → (List GI2) → Int → Option ((Bool) ⊕ (Unit))
  | 0, _, _, _ => none
  | k + 1, a1, a2, a3 => cond ((decide (a3 < ((a1.length : Int))))) ((idx a1 a3).bind fun m1 => (idx a2 a3).bind fun m2 => (laws_eqIns m1 m2).bind fun t3 => cond ((!t3)) (some (.inl (false))) (laws_eqInsS.l1 k a1 a2 ((IntKind.i64.wrap (a3 + 1))))) (some (.inr ()))
def laws_eqInsS (k : Nat) (p0 : (List GI2)) (p1 : (List GI2)) : Option (Bool) :=
  cond ((((p0.length : Int)) != ((p1.length : Int)))) (some false) ((laws_eqInsS.l1 k p0 p1 0).bind fun o1 => Sum.elim (fun o1l => some o1l) (fun o1r => some true) o1)
def laws_szFunc (p0 : GFunc) (p1 : Int) : Option (Int) :=
  (laws_szInsS p0.code p1).bind fun t1 => cond ((decide (t1 < 0))) (some ((-1))) (some t1)
def laws_toInsS.l1 : Nat → (List GI2) → (List GI2) → Int → Option ((List GI2))
  | 0, _, _, _ => none
  | k + 1, a1, a2, a3 => cond ((decide (a3 < ((a2.length : Int))))) ((idx a2 a3).bind fun m1 => (laws_toIns m1).bind fun t2 => (idx a1 a3).bind fun m3 => laws_toInsS.l1 k ((a1.set a3.toNat t2)) a2 ((IntKind.i64.wrap (a3 + 1)))) (some (a1))
def laws_toInsS (k : Nat) (p0 : (List GI2)) : Option ((List GI2)) :=
  gd (0 ≤ (p0.length : Int) ∧ ((p0.length : Int)) * 16 ≤ 35184372088832 ∧ (p0.length : Int) ≤ 35184372088832) ((laws_toInsS.l1 k ((List.replicate p0.length (⟨0, 0⟩))) p0 0).bind fun o1 => some o1)
theorem g4 : (∀ {k : Nat} {p0 : Gl01Src} {r : Int × Gl01Src}, spec_l01Src_edge k p0 = some r → Con Tryd.prog 36 [.mp 0 4 0 0] [.o 4 [[.d (.row .bor 1 (Rw (cI .u8) p0.b)), V.int p0.at0, .d (.p (.int .u64 p0.mix)), V.int p0.size]]] (V.int r.1) [.o 4 [[.d (.row .bor 1 (Rw (cI .u8) r.2.b)), V.int r.2.at0, .d (.p (.int .u64 r.2.mix)), V.int r.2.size]]]) ∧
  (∀ {k : Nat} {p0 : Gl01Src} {r : GI2 × Gl01Src}, spec_l01Src_l10AnyVal k p0 = some r → Con Tryd.prog 22 [.mp 0 4 0 0] [.o 4 [[.d (.row .bor 1 (Rw (cI .u8) p0.b)), V.int p0.at0, .d (.p (.int .u64 p0.mix)), V.int p0.size]]] (.agg [V.int r.1.a, V.int r.1.b]) [.o 4 [[.d (.row .bor 1 (Rw (cI .u8) r.2.b)), V.int r.2.at0, .d (.p (.int .u64 r.2.mix)), V.int r.2.size]]]) ∧
  (∀ {k : Nat} {p0 : Gl01Src} {p1 : Int} {r : Bool × Gl01Src}, spec_l01Src_one k p0 p1 = some r → Con Tryd.prog 20 [.mp 0 4 0 0, V.int p1] [.o 4 [[.d (.row .bor 1 (Rw (cI .u8) p0.b)), V.int p0.at0, .d (.p (.int .u64 p0.mix)), V.int p0.size]]] (V.bool r.1) [.o 4 [[.d (.row .bor 1 (Rw (cI .u8) r.2.b)), V.int r.2.at0, .d (.p (.int .u64 r.2.mix)), V.int r.2.size]]]) ∧
  (∀ {p0 : GI2} {r : Bool}, spec_l10Val p0 = some r → Con Tryd.prog 15 [.agg [V.int p0.a, V.int p0.b]] [] (V.bool r) []) ∧
  (∀ {k : Nat} {p0 : (List GI2)} {p1 : (List GI2)} {r : Bool}, laws_eqInsS k p0 p1 = some r → Con Tryd.prog 51 [.d (.row .bor 2 (Rw GI2.cells p0)), .d (.row .bor 2 (Rw GI2.cells p1))] [] (V.bool r) []) ∧
  (∀ {p0 : GFunc} {p1 : Int} {r : Int}, laws_szFunc p0 p1 = some r → Con Tryd.prog 37 [.agg [V.int p0.args, V.int p0.locals, .d (.row .bor 2 (Rw GI2.cells p0.code))], V.int p1] [] (V.int r) []) ∧
  (∀ {k : Nat} {p0 : (List GI2)} {r : (List GI2)}, laws_toInsS k p0 = some r → Con Tryd.prog 47 [.d (.row .bor 2 (Rw GI2.cells p0))] [] (.d (.row .own 2 (Rw GI2.cells r))) []) := by
  refine ⟨?_, ?_, ?_, ?_, ?_, ?_, ?_⟩
  all_goals intros
  all_goals rename_i h
  all_goals first
    | (with_reducible refine isf 36 ?_
       refine csw Tryd.func36 Tryd.call36 (by simp [Tryd.ntmps36]) (h := ?_)
       refine mkf 36 fun hF => ?_
       rw [Tryd.ntmps36, Tryd.results36]
       unfold spec_l01Src_edge at h)
    | (with_reducible refine isf 22 ?_
       refine csw Tryd.func22 Tryd.call22 (by simp [Tryd.ntmps22]) (h := ?_)
       refine mkf 22 fun hF => ?_
       rw [Tryd.ntmps22, Tryd.results22]
       unfold spec_l01Src_l10AnyVal at h)
    | (with_reducible refine isf 20 ?_
       refine csw Tryd.func20 Tryd.call20 (by simp [Tryd.ntmps20]) (h := ?_)
       refine mkf 20 fun hF => ?_
       rw [Tryd.ntmps20, Tryd.results20]
       unfold spec_l01Src_one at h)
    | (with_reducible refine isf 15 ?_
       refine csw Tryd.func15 Tryd.call15 (by simp [Tryd.ntmps15]) (h := ?_)
       refine mkf 15 fun hF => ?_
       rw [Tryd.ntmps15, Tryd.results15]
       unfold spec_l10Val at h)
    | (with_reducible refine isf 51 ?_
       refine csw Tryd.func51 Tryd.call51 (by simp [Tryd.ntmps51]) (h := ?_)
       refine mkf 51 fun hF => ?_
       rw [Tryd.ntmps51, Tryd.results51]
       unfold laws_eqInsS at h)
    | (with_reducible refine isf 37 ?_
       refine csw Tryd.func37 Tryd.call37 (by simp [Tryd.ntmps37]) (h := ?_)
       refine mkf 37 fun hF => ?_
       rw [Tryd.ntmps37, Tryd.results37]
       unfold laws_szFunc at h)
    | (with_reducible refine isf 47 ?_
       refine csw Tryd.func47 Tryd.call47 (by simp [Tryd.ntmps47]) (h := ?_)
       refine mkf 47 fun hF => ?_
       rw [Tryd.ntmps47, Tryd.results47]
       unfold laws_toInsS at h)
  all_goals (replace h := Yes.mk h; simp only [entryS, entryO, Nat.reduceAdd, List.length_nil, List.length_cons])
  repeat' (first
 | (with_reducible (first | refine sw_reg ?_ | refine sw_ret ?_ | refine sw_skip ?_ | refine sw_block ?_ | refine sw_exit ?_ | refine seqQ_normal ?_ | refine blockQ_normal ?_ | refine blockQ_ret ?_ | refine blockQ_this ?_ | refine blockQ_other (by decide) ?_ | refine regW_nil ?_ | refine sw_draw mixed ?_ | refine retQ_ret ?_ | refine retQ_normal ?_))
 | (with_reducible refine regD_nil ?_
    refine ⟨by kernel_rfl, ?_⟩)
 | (revert h; (first | ((with_reducible refine idx_elim ?_); intro m hm1 hm2 hm3 h; (try (simp only [Int.reduceToNat] at hm3)); (try (revert hm3; (with_reducible apply same_elim); (focus (with_reducible assumption)); rintro rfl)); (try (simp only [List.length_set, List.length_cons, List.length_nil, List.length_replicate, Nat.reduceAdd, Int.cast_ofNat_Int, Nat.zero_add, List.length_append] at hm2))) | (with_reducible refine sidx_elim ?_; intro m hm1 hm3 h) | (with_reducible refine gd_elim ?_; intro hg h; try (have hg2 := hg.2; have hg := hg.1; (try (simp only [Nat.reduceLeDiff] at hg2)); (try (revert hg2; (with_reducible refine toNat_elim hg ?_); intro hg2 hg4)); try (have hg3 := hg2.2; have hg2 := hg2.1; (try (simp only [Nat.reduceLeDiff] at hg3))))) | (with_reducible refine condt_elim ?_ ?_; (focus (with_reducible assumption)); intro h) | (with_reducible refine condf_elim ?_ ?_; (focus (with_reducible assumption)); intro h)))
 | ((with_reducible first | refine pnR ?_ | refine pnE ?_ | refine pmR ?_ | refine pmE ?_)
    obtain rfl := h.get
    have h := hK
    clear hK
    (try (simp only [Sum.elim_inl, Sum.elim_inr] at h)))
 | ((with_reducible refine fi 51 ?_ ?_); (focus (with_reducible assumption))
    first
    | (with_reducible refine here_loop (c := (.seq (.seq (.region 4 _ _) _) _)) ?_
       revert h
       with_reducible refine bind_elimY ?_
       intro o1 h hK
       refine lpA (β := (List GI2) × (List GI2) × Int) 10000000 (fun x => [(.s 0, some (.v (.d (.row .bor 2 (Rw GI2.cells x.2.1))))), (.s 1, some (.v (.d (.row .bor 2 (Rw GI2.cells x.2.2.1))))), (.s 5, some (.v (V.int x.2.2.2)))]) (fun x => Yes (laws_eqInsS.l1 x.1 x.2.1 x.2.2.1 x.2.2.2) o1) (_, _, _, _) h ?_
       rintro ⟨_ | k, a1, a2, a3⟩ h
       · simp only [laws_eqInsS.l1] at h; exact h.none
       simp only [laws_eqInsS.l1] at h
   ))
 | ((with_reducible refine fi 47 ?_ ?_); (focus (with_reducible assumption))
    first
    | (with_reducible refine here_loop (c := (.seq (.seq (.region 3 _ _) _) _)) ?_
       revert h
       with_reducible refine bind_elimY ?_
       intro o1 h hK
       refine lpA (β := (List GI2) × (List GI2) × Int) 10000000 (fun x => [(.s 0, some (.v (.d (.row .bor 2 (Rw GI2.cells x.2.2.1))))), (.s 3, some (.v (.sl 256 2 0 x.2.1.length))), (.s 4, some (.v (V.int x.2.2.2))), (.r 256, some (.o 2 (dd (Rw GI2.cells x.2.1))))]) (fun x => Yes (laws_toInsS.l1 x.1 x.2.1 x.2.2.1 x.2.2.2) o1) (_, _, _, _) h ?_
       rintro ⟨_ | k, a1, a2, a3⟩ h
       · simp only [laws_toInsS.l1] at h; exact h.none
       simp only [laws_toInsS.l1] at h
   ))
 | (with_reducible refine here_next ?_
    first | refine nxA (_, _, _, _) h)
 | with_reducible refine sw_seq ?_
 | with_reducible refine seqQ_ret ?_
 | with_reducible refine seqQ_exit ?_
 | ((with_reducible refine fi 47 ?_ ?_); (focus (with_reducible assumption))
    first
    | (with_reducible refine gh_nilRow 2 .own 2 ?_ ?_
       · simp only [putSt, lk, lkb, reduceCtorEq, Nat.reduceEqDiff]; done
       skip))
 | ((with_reducible refine wp_ite ?_ ?_)
    all_goals (intro hc; (try (simp only [Bool.not_eq_true, Bool.not_eq_false] at hc)); simp only [hc]))
 | (with_reducible refine rskip (hs := ?_) (h2 := ?_)
    · simp only [putSt, lk, lkb, reduceCtorEq, Nat.reduceEqDiff]; done)
 | (with_reducible refine ryes (hs := ?_) (h := ?_)
    · simp only [putSt, lk, lkb, reduceCtorEq, Nat.reduceEqDiff]; done)
 | (with_reducible refine rno (hs := ?_) (h := ?_)
    · simp only [putSt, lk, lkb, reduceCtorEq, Nat.reduceEqDiff, Bool.not_true, Bool.not_false]; done)
 | (with_reducible apply regW_guardN
    · simp only [dstOk, Nat.reduceLT]
    · rfl
    · simp only [putSt, lk, lkb, reduceCtorEq, Nat.reduceEqDiff]; rfl
    all_goals (intro hc; (try (simp only [Bool.not_true, Bool.not_false] at hc))))
 | (with_reducible apply sw_cond
    · simp only [putSt, lk, lkb, reduceCtorEq, Nat.reduceEqDiff]; rfl
    all_goals (intro hc; try (cases hc; done)))
 | ((first
     | ((with_reducible refine gh_ret ?_)
        revert h
        with_reducible refine some_elim ?_
        rintro rfl)
     | (with_reducible refine here_call ?_
        revert h
        with_reducible refine bind_elim ?_
        intro t ht h
        (first
          | ((with_reducible refine here_call (f := 35) ?_); refine call_obj [0] (c_spec_l01Src_n ht) (by decide) ?_ ?_
             · first | exact .inl rfl | (refine .inr ⟨?_, ?_⟩; (focus (first | rfl | (simp only [nbd, nbb, GI2_nb, Gl01Src_nb, GFunc_nb, GerrorAddressString_nb, LcIi64_nb]; done))); (focus (simp [C.nb, V.nbLL, V.nbL, V.nb, D.nb]; done)))
             simp only [obd, hyb, hyd, GI2_lend, Gl01Src_lend, GFunc_lend, GerrorAddressString_lend, LcIi64_lend, putSt, lk, lkb, reduceCtorEq, Nat.reduceEqDiff, Prog.wp, Prog.wp_bind, Prog.bind, Prog.ofO, List.take_of_length_le, *])
          | ((first
              | ((with_reducible refine here_call (f := 33) ?_); refine call_dataE (c_spec_l10Loc ht) ?_ rfl ?_)
              | ((with_reducible refine here_call (f := 63) ?_); refine call_dataE (c_laws_eqIns ht) ?_ rfl ?_)
              | ((with_reducible refine here_call (f := 45) ?_); refine call_dataE (c_laws_szInsS ht) ?_ rfl ?_)
              | ((with_reducible refine here_call (f := 54) ?_); refine call_dataE (c_laws_toIns ht) ?_ rfl ?_))
             · first | rfl | (simp; done))))
     | (with_reducible (first | refine ropD (h := ?_) | refine ropW (h := ?_))
        intro k hk)
     | skip)
    simp only [RetW, bn, lkb, evb, opC, opP, fetchN, fetchP, fetchAll, fetchO, Prog.bind, Prog.wp, Prog.wp_bind, lk, nameP, nameAll, Value.oneCell', putSt, stepP, putP, reduceCtorEq, V.lin, V.linL, D.lin, isNil, binP, unP, BinOp.isShift, Prog.ofO, Nat.reduceAdd, Nat.reduceMul, Nat.reduceSub, Nat.reduceLT, Nat.reduceLeDiff, Nat.reduceEqDiff, ite_true, ite_false, fieldAddrP, fieldP, indexAddrP, loadP, storeP, boxP, allocP, cellsP, asVal, setSeg, outP, outT, cntT, TyK.field, TyK.agg, zeroRow, V.ren, V.renL, forall_eq_or_imp, forall_const, minmaxP, lenP, lenOf, lenStr, V.asInt, decide_true, decide_false, sliceP, boundP, makeSliceP, convertP, appendP, rowsOfP, ontoP, sizeFits, V.rowSize, TyK.src, resV, resV.go, resV.gol, retP, retOne, retAll, resTo, objsAre, Option.map_eq_map, Function.const_apply, Int.reduceNeg, Int.reduceToNat, ty2, ty3, ty4, ty5, ty9, ty12, ty14, ty25, ty28, ty45, ty52, ty56, ty62, ty64, ty66, ty68, ty70, ty96, GFunc.cells, GI2.cells, GerrorAddressString.cells, Gl01Src.cells, cI, cB, cS, cL, GI2_e, Gl01Src_e, GFunc_e, GerrorAddressString_e, LcIi64_e, buildP, buildSliceP, putParts, structPlaces, chunks, List.replicate, List.flatten_nil, List.flatten_cons, Option.bind_some, bb, nilEqP, ne_eq, not_false_eq_true, not_true_eq_false, *]
    try (refine hk.use _ _ _ _ ?_; clear hk k))
 | fail)
  all_goals (try rfl)
  all_goals (try (simp; done))
  all_goals (try (simp_all; done))
def c_spec_l01Src_edge := @And.left _ _ g4
def c_spec_l01Src_l10AnyVal := @And.left _ _ (@And.right _ _ g4)
def c_spec_l01Src_one := @And.left _ _ (@And.right _ _ (@And.right _ _ g4))
def c_spec_l10Val := @And.left _ _ (@And.right _ _ (@And.right _ _ (@And.right _ _ g4)))
def c_laws_eqInsS := @And.left _ _ (@And.right _ _ (@And.right _ _ (@And.right _ _ (@And.right _ _ g4))))
def c_laws_szFunc := @And.left _ _ (@And.right _ _ (@And.right _ _ (@And.right _ _ (@And.right _ _ (@And.right _ _ g4)))))
def c_laws_toInsS := (@And.right _ _ (@And.right _ _ (@And.right _ _ (@And.right _ _ (@And.right _ _ (@And.right _ _ g4))))))
end Go.Proofs.YtdlaplgofgklnaaDoor