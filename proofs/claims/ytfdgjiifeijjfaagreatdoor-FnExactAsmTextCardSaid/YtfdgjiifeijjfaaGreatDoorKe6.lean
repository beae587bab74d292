/- WHAT IS PROVED: an abstract walker over the model, what some functions of the program answer, and laws of these answers. Conditions: none. -/
import Derived.Test.YtfdgjiifeijjfaaGreatDoorKe5
namespace Go.Proofs.YtfdgjiifeijjfaaGreatDoor
open Go.Proofs Go.Proofs.YtfdgjiifeijjfaaGreatDoor.L
set_option maxHeartbeats 8000000
set_option linter.unusedSimpArgs false
set_option linter.unusedVariables false
set_option maxRecDepth 100000
set_option linter.defProp false
def impl_OpName (p0 : Int) : Option (ByteArray) :=
  (impl_in p0 0 38).bind fun t1 => cond ((!t1)) (some ((⟨#[]⟩ : ByteArray))) ((impl_opNames).bind fun t2 => (idx t2 p0).bind fun m3 => some m3)
def impl_digits (p0 : Int) : Option (ByteArray) :=
  (strconv_FormatInt p0 10).bind fun t1 => some t1
def impl_isArith (p0 : Int) : Option (Bool) :=
  (impl_in p0 10 29).bind fun t1 => some t1
def impl_isBinary (p0 : Int) : Option (Bool) :=
  (impl_in p0 10 23).bind fun t1 => some t1
def impl_isLoc (p0 : Int) : Option (Bool) :=
  (impl_in p0 0 21).bind fun t1 => some t1
def impl_isUnary (p0 : Int) : Option (Bool) :=
  (impl_in p0 24 29).bind fun t1 => some t1
def impl_prog_place (p0 : Gprog) (p1 : Int) (p2 : Int) : Option (Bool) :=
  (impl_prog_code p0 p1).bind fun t1 => (impl_in p2 0 ((IntKind.i64.wrap (((t1.length : Int)) - 1)))).bind fun t2 => some t2
def impl_prog_reached (p0 : Gprog) (p1 : Int) (p2 : Int) : Option (Bool) :=
  (impl_hasFunc p0.program p1).bind fun t1 => cond t1 (cond ((decide (p2 ≥ 0))) ((idx p0.h p1).bind fun m2 => cond ((decide (p2 < ((m2.length : Int))))) ((idx m2 p2).bind fun m3 => some ((decide (m3 ≥ 0)))) (some false)) (some false)) (some false)
def impl_sameIns (k : Nat) (p0 : GAsmIns) (p1 : GAsmIns) : Option (Bool) :=
  (slices_Equal_impl_Mov_impl_Mov k p0.pre p1.pre).bind fun t1 => cond t1 (cond ((p0.op == p1.op)) (cond ((p0.to == p1.to)) ((slices_Equal_impl_Val_impl_Val k p0.l p1.l).bind fun t2 => cond t2 (some ((p0.t == p1.t))) (some false)) (some false)) (some false)) (some false)
def spec_InsRight.a1 (k : Nat) (a1 : (List GFunc)) (a2 : GI2) (a3 : Int) : Option ((Bool) ⊕ ((List GFunc) × GI2 × Int)) :=
  cond ((decide (a3 < 0))) (some (.inl (false))) (cond ((decide (a3 ≥ ((a1.length : Int))))) (some (.inl (false))) (some (.inr (a1, a2, a3))))
def spec_InsRight.a3 (k : Nat) (a1 : (List GFunc)) (a2 : GI2) (a3 : Int) (a4 : Int) : Option ((List GFunc) × GI2 × Int × Int × Bool) :=
  cond ((a4 == 2)) (some (a1, a2, a3, a4, true)) (some (a1, a2, a3, a4, (a4 == 3)))
def spec_InsRight.a4 (k : Nat) (a1 : (List GFunc)) (a2 : GI2) (a3 : Int) (a4 : Int) : Option ((List GFunc) × GI2 × Int × Int × Bool) :=
  cond ((a4 == 30)) (some (a1, a2, a3, a4, true)) (some (a1, a2, a3, a4, (a4 == 31)))
def spec_InsRight.a2 (k : Nat) (a1 : (List GFunc)) (a2 : GI2) (a3 : Int) : Option ((Bool) ⊕ (GI2)) :=
  cond ((a2.a == 1)) (some (.inl (true))) ((spec_InsRight.a3 k a1 a2 a3 a2.a).bind fun o3 => cond o3.2.2.2.2 (cond ((decide (o3.2.1.b ≥ 0))) ((idx o3.1 o3.2.2.1).bind fun m1 => some (.inl ((decide (o3.2.1.b < m1.locals))))) (some (.inl (false)))) ((spec_InsRight.a4 k o3.1 o3.2.1 o3.2.2.1 o3.2.2.2.1).bind fun o4 => cond o4.2.2.2.2 (cond ((decide (o4.2.1.b ≥ 0))) ((idx o4.1 o4.2.2.1).bind fun m2 => some (.inl ((decide (o4.2.1.b < ((m2.code.length : Int))))))) (some (.inl (false)))) (cond ((o4.2.2.2.1 == 32)) (cond ((decide (o4.2.1.b ≥ 0))) (some (.inl ((decide (o4.2.1.b < ((o4.1.length : Int))))))) (some (.inl (false)))) (some (.inr (o4.2.1))))))
def spec_InsRight (k : Nat) (p0 : GProgram) (p1 : Int) (p2 : GI2) : Option (Bool) :=
  (spec_InsRight.a1 k p0.funcs p2 p1).bind fun o1 => Sum.elim (fun o1l => some o1l) (fun o1r => (spec_InsRight.a2 k o1r.1 o1r.2.1 o1r.2.2).bind fun o2 => Sum.elim (fun o2l => some o2l) (fun o2r => (spec_OpName k o2r.a).bind fun t3 => cond ((!(t3.toList == ((⟨#[]⟩ : ByteArray)).toList))) (some ((o2r.b == 0))) (some false)) o2) o1
def spec_Puts.a1 (k : Nat) (a1 : GI2) : Option ((Int) ⊕ (GI2)) :=
  (spec_l03Binary a1.a).bind fun t1 => cond t1 (some (.inl (1))) ((spec_l03Unary a1.a).bind fun t2 => cond t2 (some (.inl (1))) (some (.inr (a1))))
def spec_Puts (k : Nat) (p0 : GI2) : Option (Int) :=
  (spec_Puts.a1 k p0).bind fun o1 => Sum.elim (fun o1l => some o1l) (fun o1r => cond ((o1r.a == 4)) (some 2) (cond ((o1r.a == 1)) (some 1) (cond ((o1r.a == 2)) (some 1) (cond ((o1r.a == 32)) (some 1) (cond ((o1r.a == 34)) (some 1) (cond ((o1r.a == 35)) (some 1) (cond ((o1r.a == 37)) (some 1) (some 0)))))))) o1
def spec_Takes.a2 (k : Nat) (a1 : (List GFunc)) (a2 : GI2) : Option ((List GFunc) × GI2 × Bool) :=
  (spec_l03Binary a2.a).bind fun t1 => cond t1 (some (a1, a2, true)) (some (a1, a2, (a2.a == 35)))
def spec_Takes.a1 (k : Nat) (a1 : (List GFunc)) (a2 : GI2) : Option ((Int) ⊕ (GI2)) :=
  (spec_Takes.a2 k a1 a2).bind fun o2 => cond o2.2.2 (some (.inl (2))) (cond ((o2.2.1.a == 36)) (some (.inl (3))) (cond ((o2.2.1.a == 32)) (cond ((decide (o2.2.1.b < 0))) (some (.inl (0))) (cond ((decide (o2.2.1.b ≥ ((o2.1.length : Int))))) (some (.inl (0))) ((idx o2.1 o2.2.1.b).bind fun m2 => some (.inl (m2.args))))) ((spec_l03Unary o2.2.1.a).bind fun t3 => cond t3 (some (.inl (1))) (some (.inr (o2.2.1))))))
def spec_Takes (k : Nat) (p0 : GProgram) (p1 : GI2) : Option (Int) :=
  (spec_Takes.a1 k p0.funcs p1).bind fun o1 => Sum.elim (fun o1l => some o1l) (fun o1r => cond ((o1r.a == 3)) (some 1) (cond ((o1r.a == 4)) (some 1) (cond ((o1r.a == 5)) (some 1) (cond ((o1r.a == 31)) (some 1) (cond ((o1r.a == 33)) (some 1) (cond ((o1r.a == 34)) (some 1) (cond ((o1r.a == 37)) (some 1) (cond ((o1r.a == 38)) (some 1) (some 0))))))))) o1
def spec_l10Val (p0 : GI2) : Option (Bool) :=
  cond ((p0.a == 0)) (some ((p0.b == 0))) (cond ((p0.a == 1)) ((spec_l10Loc p0.b).bind fun t1 => some t1) (some ((p0.a == 2))))
def spec_l19Name (k : Nat) (p0 : Int) : Option (ByteArray) :=
  cond ((p0 == 0)) (some ((⟨#[110, 111, 112]⟩ : ByteArray))) (cond ((p0 == 1)) (some ((⟨#[109, 111, 118, 101]⟩ : ByteArray))) (cond ((p0 == 3)) (some ((⟨#[103, 117, 97, 114, 100]⟩ : ByteArray))) ((spec_OpName k p0).bind fun t1 => some t1)))
def laws_eqInsS.l1 : Nat → (List GI2) → (List GI2) → Int → Option ((Bool) ⊕ (Unit))
  | 0, _, _, _ => none
  | k + 1, a1, a2, a3 => cond ((decide (a3 < ((a1.length : Int))))) ((idx a1 a3).bind fun m1 => (idx a2 a3).bind fun m2 => (laws_eqIns m1 m2).bind fun t3 => cond ((!t3)) (some (.inl (false))) (laws_eqInsS.l1 k a1 a2 ((IntKind.i64.wrap (a3 + 1))))) (some (.inr ()))
def laws_eqInsS (k : Nat) (p0 : (List GI2)) (p1 : (List GI2)) : Option (Bool) :=
  cond ((((p0.length : Int)) != ((p1.length : Int)))) (some false) ((laws_eqInsS.l1 k p0 p1 0).bind fun o1 => Sum.elim (fun o1l => some o1l) (fun o1r => some true) o1)
def laws_eqMov (p0 : GMov) (p1 : GMov) : Option (Bool) :=
  cond ((p0.to != p1.to)) (some false) ((laws_eqVal p0.from0 p1.from0).bind fun t1 => cond ((!t1)) (some false) (some true))
def laws_eqValS.l1 : Nat → (List GI2) → (List GI2) → Int → Option ((Bool) ⊕ (Unit))
  | 0, _, _, _ => none
  | k + 1, a1, a2, a3 => cond ((decide (a3 < ((a1.length : Int))))) ((idx a1 a3).bind fun m1 => (idx a2 a3).bind fun m2 => (laws_eqVal m1 m2).bind fun t3 => cond ((!t3)) (some (.inl (false))) (laws_eqValS.l1 k a1 a2 ((IntKind.i64.wrap (a3 + 1))))) (some (.inr ()))
def laws_eqValS (k : Nat) (p0 : (List GI2)) (p1 : (List GI2)) : Option (Bool) :=
  cond ((((p0.length : Int)) != ((p1.length : Int)))) (some false) ((laws_eqValS.l1 k p0 p1 0).bind fun o1 => Sum.elim (fun o1l => some o1l) (fun o1r => some true) o1)
def laws_szAsmIns (p0 : GAsmIns) (p1 : Int) : Option (Int) :=
  (laws_szMovS p0.pre p1).bind fun t1 => cond ((decide (t1 < 0))) (some ((-1))) ((laws_szValS p0.l t1).bind fun t2 => cond ((decide (t2 < 0))) (some ((-1))) (some t2))
def laws_szFunc (p0 : GFunc) (p1 : Int) : Option (Int) :=
  (laws_szInsS p0.code p1).bind fun t1 => cond ((decide (t1 < 0))) (some ((-1))) (some t1)
def laws_szValSS.l1 : Nat → (List (List GI2)) → Int → Int → Option ((Int) ⊕ (Int))
  | 0, _, _, _ => none
  | k + 1, a1, a2, a3 => cond ((decide (a3 < ((a1.length : Int))))) ((idx a1 a3).bind fun m1 => (laws_szValS m1 a2).bind fun t2 => cond ((decide (t2 < 0))) (some (.inl ((-1)))) (laws_szValSS.l1 k a1 t2 ((IntKind.i64.wrap (a3 + 1))))) (some (.inr (a2)))
def laws_szValSS (k : Nat) (p0 : (List (List GI2))) (p1 : Int) : Option (Int) :=
  cond ((decide (((IntKind.i64.wrap (p1 - ((p0.length : Int))))) < 0))) (some ((-1))) ((laws_szValSS.l1 k p0 ((IntKind.i64.wrap (p1 - ((p0.length : Int))))) 0).bind fun o1 => Sum.elim (fun o1l => some o1l) (fun o1r => some o1r) o1)
def laws_toInsS.l1 : Nat → (List GI2) → (List GI2) → Int → Option ((List GI2))
  | 0, _, _, _ => none
  | k + 1, a1, a2, a3 => cond ((decide (a3 < ((a2.length : Int))))) ((idx a2 a3).bind fun m1 => (laws_toIns m1).bind fun t2 => (idx a1 a3).bind fun m3 => laws_toInsS.l1 k ((a1.set a3.toNat t2)) a2 ((IntKind.i64.wrap (a3 + 1)))) (some (a1))
def laws_toInsS (k : Nat) (p0 : (List GI2)) : Option ((List GI2)) :=
  gd (0 ≤ (p0.length : Int) ∧ ((p0.length : Int)) * 16 ≤ 35184372088832 ∧ (p0.length : Int) ≤ 35184372088832) ((laws_toInsS.l1 k ((List.replicate p0.length (⟨0, 0⟩))) p0 0).bind fun o1 => some o1)
def laws_toMov (p0 : GMov) : Option (GMov) :=
  (laws_toVal p0.from0).bind fun t1 => some ((⟨p0.to, t1⟩ : GMov))
def laws_toValS.l1 : Nat → (List GI2) → (List GI2) → Int → Option ((List GI2))
  | 0, _, _, _ => none
  | k + 1, a1, a2, a3 => cond ((decide (a3 < ((a2.length : Int))))) ((idx a2 a3).bind fun m1 => (laws_toVal m1).bind fun t2 => (idx a1 a3).bind fun m3 => laws_toValS.l1 k ((a1.set a3.toNat t2)) a2 ((IntKind.i64.wrap (a3 + 1)))) (some (a1))
def laws_toValS (k : Nat) (p0 : (List GI2)) : Option ((List GI2)) :=
  gd (0 ≤ (p0.length : Int) ∧ ((p0.length : Int)) * 16 ≤ 35184372088832 ∧ (p0.length : Int) ≤ 35184372088832) ((laws_toValS.l1 k ((List.replicate p0.length (⟨0, 0⟩))) p0 0).bind fun o1 => some o1)
theorem ge2 : (∀ {p0 : Int} {r : ByteArray}, impl_OpName p0 = some r → Con Tryz.prog 47 [V.int p0] [] (.d (.p (.string r))) []) ∧
  (∀ {p0 : Int} {r : ByteArray}, impl_digits p0 = some r → Con Tryz.prog 25 [V.int p0] [] (.d (.p (.string r))) []) ∧
  (∀ {p0 : Int} {r : Bool}, impl_isArith p0 = some r → Con Tryz.prog 91 [V.int p0] [] (V.bool r) []) ∧
  (∀ {p0 : Int} {r : Bool}, impl_isBinary p0 = some r → Con Tryz.prog 101 [V.int p0] [] (V.bool r) []) ∧
  (∀ {p0 : Int} {r : Bool}, impl_isLoc p0 = some r → Con Tryz.prog 87 [V.int p0] [] (V.bool r) []) ∧
  (∀ {p0 : Int} {r : Bool}, impl_isUnary p0 = some r → Con Tryz.prog 102 [V.int p0] [] (V.bool r) []) ∧
  (∀ {p0 : Gprog} {p1 : Int} {p2 : Int} {r : Bool}, impl_prog_place p0 p1 p2 = some r → Con Tryz.prog 89 [.d (.ptr .bor [.row .bor 3 (Rw (GFunc.cells .bor) p0.program.funcs), .row .bor 1 (Rw (cL .bor 1 (cI .i64)) p0.h)]), V.int p1, V.int p2] [] (V.bool r) []) ∧
  (∀ {p0 : Gprog} {p1 : Int} {p2 : Int} {r : Bool}, impl_prog_reached p0 p1 p2 = some r → Con Tryz.prog 67 [.d (.ptr .bor [.row .bor 3 (Rw (GFunc.cells .bor) p0.program.funcs), .row .bor 1 (Rw (cL .bor 1 (cI .i64)) p0.h)]), V.int p1, V.int p2] [] (V.bool r) []) ∧
  (∀ {k : Nat} {p0 : GAsmIns} {p1 : GAsmIns} {r : Bool}, impl_sameIns k p0 p1 = some r → Con Tryz.prog 68 [.agg [.d (.row .bor 3 (Rw GMov.cells p0.pre)), V.int p0.op, V.int p0.to, .d (.row .bor 2 (Rw GI2.cells p0.l)), V.int p0.t], .agg [.d (.row .bor 3 (Rw GMov.cells p1.pre)), V.int p1.op, V.int p1.to, .d (.row .bor 2 (Rw GI2.cells p1.l)), V.int p1.t]] [] (V.bool r) []) ∧
  (∀ {k : Nat} {p0 : GProgram} {p1 : Int} {p2 : GI2} {r : Bool}, spec_InsRight k p0 p1 p2 = some r → Con Tryz.prog 108 [.agg [.d (.row .bor 3 (Rw (GFunc.cells .bor) p0.funcs))], V.int p1, .agg [V.int p2.a, V.int p2.b]] [] (V.bool r) []) ∧
  (∀ {k : Nat} {p0 : GI2} {r : Int}, spec_Puts k p0 = some r → Con Tryz.prog 56 [.agg [V.int p0.a, V.int p0.b]] [] (V.int r) []) ∧
  (∀ {k : Nat} {p0 : GProgram} {p1 : GI2} {r : Int}, spec_Takes k p0 p1 = some r → Con Tryz.prog 55 [.agg [.d (.row .bor 3 (Rw (GFunc.cells .bor) p0.funcs))], .agg [V.int p1.a, V.int p1.b]] [] (V.int r) []) ∧
  (∀ {p0 : GI2} {r : Bool}, spec_l10Val p0 = some r → Con Tryz.prog 38 [.agg [V.int p0.a, V.int p0.b]] [] (V.bool r) []) ∧
  (∀ {k : Nat} {p0 : Int} {r : ByteArray}, spec_l19Name k p0 = some r → Con Tryz.prog 20 [V.int p0] [] (.d (.p (.string r))) []) ∧
  (∀ {k : Nat} {p0 : (List GI2)} {p1 : (List GI2)} {r : Bool}, laws_eqInsS k p0 p1 = some r → Con Tryz.prog 76 [.d (.row .bor 2 (Rw GI2.cells p0)), .d (.row .bor 2 (Rw GI2.cells p1))] [] (V.bool r) []) ∧
  (∀ {p0 : GMov} {p1 : GMov} {r : Bool}, laws_eqMov p0 p1 = some r → Con Tryz.prog 97 [.agg [V.int p0.to, V.int p0.from0.a, V.int p0.from0.b], .agg [V.int p1.to, V.int p1.from0.a, V.int p1.from0.b]] [] (V.bool r) []) ∧
  (∀ {k : Nat} {p0 : (List GI2)} {p1 : (List GI2)} {r : Bool}, laws_eqValS k p0 p1 = some r → Con Tryz.prog 50 [.d (.row .bor 2 (Rw GI2.cells p0)), .d (.row .bor 2 (Rw GI2.cells p1))] [] (V.bool r) []) ∧
  (∀ {p0 : GAsmIns} {p1 : Int} {r : Int}, laws_szAsmIns p0 p1 = some r → Con Tryz.prog 33 [.agg [.d (.row .bor 3 (Rw GMov.cells p0.pre)), V.int p0.op, V.int p0.to, .d (.row .bor 2 (Rw GI2.cells p0.l)), V.int p0.t], V.int p1] [] (V.int r) []) ∧
  (∀ {p0 : GFunc} {p1 : Int} {r : Int}, laws_szFunc p0 p1 = some r → Con Tryz.prog 32 [.agg [V.int p0.args, V.int p0.locals, .d (.row .bor 2 (Rw GI2.cells p0.code))], V.int p1] [] (V.int r) []) ∧
  (∀ {k : Nat} {p0 : (List (List GI2))} {p1 : Int} {r : Int}, laws_szValSS k p0 p1 = some r → Con Tryz.prog 14 [.d (.row .bor 1 (Rw (cL .bor 2 GI2.cells) p0)), V.int p1] [] (V.int r) []) ∧
  (∀ {k : Nat} {p0 : (List GI2)} {r : (List GI2)}, laws_toInsS k p0 = some r → Con Tryz.prog 61 [.d (.row .bor 2 (Rw GI2.cells p0))] [] (.d (.row .own 2 (Rw GI2.cells r))) []) ∧
  (∀ {p0 : GMov} {r : GMov}, laws_toMov p0 = some r → Con Tryz.prog 81 [.agg [V.int p0.to, V.int p0.from0.a, V.int p0.from0.b]] [] (.agg [V.int r.to, V.int r.from0.a, V.int r.from0.b]) []) ∧
  (∀ {k : Nat} {p0 : (List GI2)} {r : (List GI2)}, laws_toValS k p0 = some r → Con Tryz.prog 42 [.d (.row .bor 2 (Rw GI2.cells p0))] [] (.d (.row .own 2 (Rw GI2.cells r))) []) := by
  refine ⟨?_, ?_, ?_, ?_, ?_, ?_, ?_, ?_, ?_, ?_, ?_, ?_, ?_, ?_, ?_, ?_, ?_, ?_, ?_, ?_, ?_, ?_, ?_⟩
  all_goals intros
  all_goals rename_i h
  all_goals first
    | (with_reducible refine isf 47 ?_
       refine csw Tryz.func47 Tryz.call47 (by simp [Tryz.ntmps47]) (h := ?_)
       refine mkf 47 fun hF => ?_
       rw [Tryz.ntmps47, Tryz.results47]
       unfold impl_OpName at h)
    | (with_reducible refine isf 25 ?_
       refine csw Tryz.func25 Tryz.call25 (by simp [Tryz.ntmps25]) (h := ?_)
       refine mkf 25 fun hF => ?_
       rw [Tryz.ntmps25, Tryz.results25]
       unfold impl_digits at h)
    | (with_reducible refine isf 91 ?_
       refine csw Tryz.func91 Tryz.call91 (by simp [Tryz.ntmps91]) (h := ?_)
       refine mkf 91 fun hF => ?_
       rw [Tryz.ntmps91, Tryz.results91]
       unfold impl_isArith at h)
    | (with_reducible refine isf 101 ?_
       refine csw Tryz.func101 Tryz.call101 (by simp [Tryz.ntmps101]) (h := ?_)
       refine mkf 101 fun hF => ?_
       rw [Tryz.ntmps101, Tryz.results101]
       unfold impl_isBinary at h)
    | (with_reducible refine isf 87 ?_
       refine csw Tryz.func87 Tryz.call87 (by simp [Tryz.ntmps87]) (h := ?_)
       refine mkf 87 fun hF => ?_
       rw [Tryz.ntmps87, Tryz.results87]
       unfold impl_isLoc at h)
    | (with_reducible refine isf 102 ?_
       refine csw Tryz.func102 Tryz.call102 (by simp [Tryz.ntmps102]) (h := ?_)
       refine mkf 102 fun hF => ?_
       rw [Tryz.ntmps102, Tryz.results102]
       unfold impl_isUnary at h)
    | (with_reducible refine isf 89 ?_
       refine csw Tryz.func89 Tryz.call89 (by simp [Tryz.ntmps89]) (h := ?_)
       refine mkf 89 fun hF => ?_
       rw [Tryz.ntmps89, Tryz.results89]
       unfold impl_prog_place at h)
    | (with_reducible refine isf 67 ?_
       refine csw Tryz.func67 Tryz.call67 (by simp [Tryz.ntmps67]) (h := ?_)
       refine mkf 67 fun hF => ?_
       rw [Tryz.ntmps67, Tryz.results67]
       unfold impl_prog_reached at h)
    | (with_reducible refine isf 68 ?_
       refine csw Tryz.func68 Tryz.call68 (by simp [Tryz.ntmps68]) (h := ?_)
       refine mkf 68 fun hF => ?_
       rw [Tryz.ntmps68, Tryz.results68]
       unfold impl_sameIns at h)
    | (with_reducible refine isf 108 ?_
       refine csw Tryz.func108 Tryz.call108 (by simp [Tryz.ntmps108]) (h := ?_)
       refine mkf 108 fun hF => ?_
       rw [Tryz.ntmps108, Tryz.results108]
       unfold spec_InsRight at h)
    | (with_reducible refine isf 56 ?_
       refine csw Tryz.func56 Tryz.call56 (by simp [Tryz.ntmps56]) (h := ?_)
       refine mkf 56 fun hF => ?_
       rw [Tryz.ntmps56, Tryz.results56]
       unfold spec_Puts at h)
    | (with_reducible refine isf 55 ?_
       refine csw Tryz.func55 Tryz.call55 (by simp [Tryz.ntmps55]) (h := ?_)
       refine mkf 55 fun hF => ?_
       rw [Tryz.ntmps55, Tryz.results55]
       unfold spec_Takes at h)
    | (with_reducible refine isf 38 ?_
       refine csw Tryz.func38 Tryz.call38 (by simp [Tryz.ntmps38]) (h := ?_)
       refine mkf 38 fun hF => ?_
       rw [Tryz.ntmps38, Tryz.results38]
       unfold spec_l10Val at h)
    | (with_reducible refine isf 20 ?_
       refine csw Tryz.func20 Tryz.call20 (by simp [Tryz.ntmps20]) (h := ?_)
       refine mkf 20 fun hF => ?_
       rw [Tryz.ntmps20, Tryz.results20]
       unfold spec_l19Name at h)
    | (with_reducible refine isf 76 ?_
       refine csw Tryz.func76 Tryz.call76 (by simp [Tryz.ntmps76]) (h := ?_)
       refine mkf 76 fun hF => ?_
       rw [Tryz.ntmps76, Tryz.results76]
       unfold laws_eqInsS at h)
    | (with_reducible refine isf 97 ?_
       refine csw Tryz.func97 Tryz.call97 (by simp [Tryz.ntmps97]) (h := ?_)
       refine mkf 97 fun hF => ?_
       rw [Tryz.ntmps97, Tryz.results97]
       unfold laws_eqMov at h)
    | (with_reducible refine isf 50 ?_
       refine csw Tryz.func50 Tryz.call50 (by simp [Tryz.ntmps50]) (h := ?_)
       refine mkf 50 fun hF => ?_
       rw [Tryz.ntmps50, Tryz.results50]
       unfold laws_eqValS at h)
    | (with_reducible refine isf 33 ?_
       refine csw Tryz.func33 Tryz.call33 (by simp [Tryz.ntmps33]) (h := ?_)
       refine mkf 33 fun hF => ?_
       rw [Tryz.ntmps33, Tryz.results33]
       unfold laws_szAsmIns at h)
    | (with_reducible refine isf 32 ?_
       refine csw Tryz.func32 Tryz.call32 (by simp [Tryz.ntmps32]) (h := ?_)
       refine mkf 32 fun hF => ?_
       rw [Tryz.ntmps32, Tryz.results32]
       unfold laws_szFunc at h)
    | (with_reducible refine isf 14 ?_
       refine csw Tryz.func14 Tryz.call14 (by simp [Tryz.ntmps14]) (h := ?_)
       refine mkf 14 fun hF => ?_
       rw [Tryz.ntmps14, Tryz.results14]
       unfold laws_szValSS at h)
    | (with_reducible refine isf 61 ?_
       refine csw Tryz.func61 Tryz.call61 (by simp [Tryz.ntmps61]) (h := ?_)
       refine mkf 61 fun hF => ?_
       rw [Tryz.ntmps61, Tryz.results61]
       unfold laws_toInsS at h)
    | (with_reducible refine isf 81 ?_
       refine csw Tryz.func81 Tryz.call81 (by simp [Tryz.ntmps81]) (h := ?_)
       refine mkf 81 fun hF => ?_
       rw [Tryz.ntmps81, Tryz.results81]
       unfold laws_toMov at h)
    | (with_reducible refine isf 42 ?_
       refine csw Tryz.func42 Tryz.call42 (by simp [Tryz.ntmps42]) (h := ?_)
       refine mkf 42 fun hF => ?_
       rw [Tryz.ntmps42, Tryz.results42]
       unfold laws_toValS at h)
  all_goals (replace h := Yes.mk h; simp only [entryS, entryO, Nat.reduceAdd, List.length_nil, List.length_cons])
  repeat' (first
 | (with_reducible (first | refine sw_reg ?_ | refine sw_ret ?_ | refine sw_skip ?_ | refine sw_block ?_ | refine sw_exit ?_ | refine seqQ_normal ?_ | refine blockQ_normal ?_ | refine blockQ_ret ?_ | refine blockQ_this ?_ | refine blockQ_other (by decide) ?_ | refine regW_nil ?_ | refine sw_draw mixed ?_ | refine retQ_ret ?_ | refine retQ_normal ?_))
 | (with_reducible refine regD_nil ?_
    refine ⟨by kernel_rfl, ?_⟩)
 | (revert h; (first | ((with_reducible refine idx_elim ?_); intro m hm1 hm2 hm3 h; (try (simp only [Int.reduceToNat] at hm3)); (try (revert hm3; (with_reducible apply same_elim); (focus (with_reducible assumption)); rintro rfl)); (try (simp only [List.length_set, List.length_cons, List.length_nil, List.length_replicate, Nat.reduceAdd, Int.cast_ofNat_Int, Nat.zero_add, List.length_append] at hm2))) | (with_reducible refine sidx_elim ?_; intro m hm1 hm3 h) | (with_reducible refine gd_elim ?_; intro hg h; try (have hg2 := hg.2; have hg := hg.1; (try (simp only [Nat.reduceLeDiff] at hg2)); (try (revert hg2; (with_reducible refine toNat_elim hg ?_); intro hg2 hg4)); try (have hg3 := hg2.2; have hg2 := hg2.1; (try (simp only [Nat.reduceLeDiff] at hg3))))) | (with_reducible refine condt_elim ?_ ?_; (focus (with_reducible assumption)); intro h) | (with_reducible refine condf_elim ?_ ?_; (focus (with_reducible assumption)); intro h)))
 | ((with_reducible first | refine pnR ?_ | refine pnE ?_ | refine pmR ?_ | refine pmE ?_)
    obtain rfl := h.get
    have h := hK
    clear hK
    (try (simp only [Sum.elim_inl, Sum.elim_inr] at h)))
 | ((with_reducible refine fi 108 ?_ ?_); (focus (with_reducible assumption))
    first
    | (with_reducible refine here_join (a := (.seq (.region 9 _ _) _)) (b := (.cond (.tmp 37) _ _)) ?_
       revert h
       with_reducible refine bind_elimY ?_
       intro o4 h hK
       unfold spec_InsRight.a4 at h
       refine sw_join (ι := (List GFunc) × GI2 × Int × Int × Bool) 40000000 (fun x => [(.s 1, some (.v (V.int x.2.2.1))), (.s 3, some (.v (.mp 0 1 0 0))), (.s 5, some (.v (.mp 64 2 0 0))), (.s 17, some (.v (V.int x.2.2.2.1))), (.s 37, some (.v (V.bool x.2.2.2.2))), (.r 0, some (.o 1 [[.d (.row .bor 3 (Rw (GFunc.cells .bor) x.1))]])), (.r 64, some (.o 2 [[V.int x.2.1.a, V.int x.2.1.b]]))]) (fun x => Yes (some (x)) o4) ?_ ?_
       rotate_left
       rintro ⟨b1, b2, b3, b4, b5⟩ h
       obtain rfl := h.get
       have h := hK
       clear hK
       (try (simp only [Sum.elim_inl, Sum.elim_inr] at h))
       refine sw_gh ?_
       refine gh_sw ?_)
    | (with_reducible refine here_join (a := (.seq (.region 6 _ _) _)) (b := (.cond (.tmp 20) _ _)) ?_
       revert h
       with_reducible refine bind_elimY ?_
       intro o3 h hK
       unfold spec_InsRight.a3 at h
       refine sw_join (ι := (List GFunc) × GI2 × Int × Int × Bool) 30000000 (fun x => [(.s 1, some (.v (V.int x.2.2.1))), (.s 3, some (.v (.mp 0 1 0 0))), (.s 5, some (.v (.mp 64 2 0 0))), (.s 17, some (.v (V.int x.2.2.2.1))), (.s 20, some (.v (V.bool x.2.2.2.2))), (.r 0, some (.o 1 [[.d (.row .bor 3 (Rw (GFunc.cells .bor) x.1))]])), (.r 64, some (.o 2 [[V.int x.2.1.a, V.int x.2.1.b]]))]) (fun x => Yes (some (x)) o3) ?_ ?_
       rotate_left
       rintro ⟨b1, b2, b3, b4, b5⟩ h
       obtain rfl := h.get
       have h := hK
       clear hK
       (try (simp only [Sum.elim_inl, Sum.elim_inr] at h))
       refine sw_gh ?_
       refine gh_sw ?_)
    | (with_reducible refine here_join (a := (.seq (.region 3 _ _) _)) (b := (.seq (.region 14 _ _) _)) ?_
       revert h
       with_reducible refine bind_elimY ?_
       intro o2 h hK
       unfold spec_InsRight.a2 at h
       refine sw_join (ι := GI2) 20000000 (fun x => [(.s 5, some (.v (.mp 64 2 0 0))), (.r 64, some (.o 2 [[V.int x.a, V.int x.b]]))]) (fun x => Yes (some (.inr x)) o2) ?_ ?_
       rotate_left
       rintro b1 h
       obtain rfl := h.get
       have h := hK
       clear hK
       (try (simp only [Sum.elim_inl, Sum.elim_inr] at h))
       refine sw_gh ?_
       refine gh_sw ?_)
    | (with_reducible refine here_join (a := (.seq (.region 1 _ _) _)) (b := (.seq (.seq (.region 3 _ _) _) _)) ?_
       revert h
       with_reducible refine bind_elimY ?_
       intro o1 h hK
       unfold spec_InsRight.a1 at h
       refine sw_join (ι := (List GFunc) × GI2 × Int) 10000000 (fun x => [(.s 1, some (.v (V.int x.2.2))), (.s 3, some (.v (.mp 0 1 0 0))), (.s 5, some (.v (.mp 64 2 0 0))), (.r 0, some (.o 1 [[.d (.row .bor 3 (Rw (GFunc.cells .bor) x.1))]])), (.r 64, some (.o 2 [[V.int x.2.1.a, V.int x.2.1.b]]))]) (fun x => Yes (some (.inr x)) o1) ?_ ?_
       rotate_left
       rintro ⟨b1, b2, b3⟩ h
       obtain rfl := h.get
       have h := hK
       clear hK
       (try (simp only [Sum.elim_inl, Sum.elim_inr] at h))
       refine sw_gh ?_
       refine gh_sw ?_))
 | ((with_reducible refine fi 56 ?_ ?_); (focus (with_reducible assumption))
    first
    | (with_reducible refine here_join (a := (.seq (.region 1 _ _) _)) (b := (.seq (.seq (.region 3 _ _) _) _)) ?_
       revert h
       with_reducible refine bind_elimY ?_
       intro o1 h hK
       unfold spec_Puts.a1 at h
       refine sw_join (ι := GI2) 10000000 (fun x => [(.s 1, some (.v (.mp 0 2 0 0))), (.r 0, some (.o 2 [[V.int x.a, V.int x.b]]))]) (fun x => Yes (some (.inr x)) o1) ?_ ?_
       rotate_left
       rintro b1 h
       obtain rfl := h.get
       have h := hK
       clear hK
       (try (simp only [Sum.elim_inl, Sum.elim_inr] at h))
       refine sw_gh ?_
       refine gh_sw ?_))
 | ((with_reducible refine fi 55 ?_ ?_); (focus (with_reducible assumption))
    first
    | (with_reducible refine here_join (a := (.region 1 _ _)) (b := (.cond (.tmp 5) _ _)) ?_
       revert h
       with_reducible refine bind_elimY ?_
       intro o2 h hK
       unfold spec_Takes.a2 at h
       refine sw_join (ι := (List GFunc) × GI2 × Bool) 20000000 (fun x => [(.s 2, some (.v (.mp 0 1 0 0))), (.s 3, some (.v (.mp 64 2 0 0))), (.s 5, some (.v (V.bool x.2.2))), (.r 0, some (.o 1 [[.d (.row .bor 3 (Rw (GFunc.cells .bor) x.1))]])), (.r 64, some (.o 2 [[V.int x.2.1.a, V.int x.2.1.b]]))]) (fun x => Yes (some (x)) o2) ?_ ?_
       rotate_left
       rintro ⟨b1, b2, b3⟩ h
       obtain rfl := h.get
       have h := hK
       clear hK
       (try (simp only [Sum.elim_inl, Sum.elim_inr] at h))
       refine sw_gh ?_
       refine gh_sw ?_)
    | (with_reducible refine here_join (a := (.block 0 _)) (b := (.seq (.seq (.region 11 _ _) _) _)) ?_
       revert h
       with_reducible refine bind_elimY ?_
       intro o1 h hK
       unfold spec_Takes.a1 at h
       refine sw_join (ι := GI2) 10000000 (fun x => [(.s 3, some (.v (.mp 64 2 0 0))), (.r 64, some (.o 2 [[V.int x.a, V.int x.b]]))]) (fun x => Yes (some (.inr x)) o1) ?_ ?_
       rotate_left
       rintro b1 h
       obtain rfl := h.get
       have h := hK
       clear hK
       (try (simp only [Sum.elim_inl, Sum.elim_inr] at h))
       refine sw_gh ?_
       refine gh_sw ?_))
 | ((with_reducible refine fi 76 ?_ ?_); (focus (with_reducible assumption))
    first
    | (with_reducible refine here_loop (c := (.seq (.seq (.region 4 _ _) _) _)) ?_
       revert h
       with_reducible refine bind_elimY ?_
       intro o1 h hK
       refine lpA (β := (List GI2) × (List GI2) × Int) 10000000 (fun x => [(.s 0, some (.v (.d (.row .bor 2 (Rw GI2.cells x.2.1))))), (.s 1, some (.v (.d (.row .bor 2 (Rw GI2.cells x.2.2.1))))), (.s 5, some (.v (V.int x.2.2.2)))]) (fun x => Yes (laws_eqInsS.l1 x.1 x.2.1 x.2.2.1 x.2.2.2) o1) (_, _, _, _) h ?_
       rintro ⟨_ | k, a1, a2, a3⟩ h
       · simp only [laws_eqInsS.l1] at h; exact h.none
       simp only [laws_eqInsS.l1] at h
   ))
 | ((with_reducible refine fi 50 ?_ ?_); (focus (with_reducible assumption))
    first
    | (with_reducible refine here_loop (c := (.seq (.seq (.region 4 _ _) _) _)) ?_
       revert h
       with_reducible refine bind_elimY ?_
       intro o1 h hK
       refine lpA (β := (List GI2) × (List GI2) × Int) 10000000 (fun x => [(.s 0, some (.v (.d (.row .bor 2 (Rw GI2.cells x.2.1))))), (.s 1, some (.v (.d (.row .bor 2 (Rw GI2.cells x.2.2.1))))), (.s 5, some (.v (V.int x.2.2.2)))]) (fun x => Yes (laws_eqValS.l1 x.1 x.2.1 x.2.2.1 x.2.2.2) o1) (_, _, _, _) h ?_
       rintro ⟨_ | k, a1, a2, a3⟩ h
       · simp only [laws_eqValS.l1] at h; exact h.none
       simp only [laws_eqValS.l1] at h
   ))
 | ((with_reducible refine fi 14 ?_ ?_); (focus (with_reducible assumption))
    first
    | (with_reducible refine here_loop (c := (.seq (.seq (.region 5 _ _) _) _)) ?_
       revert h
       with_reducible refine bind_elimY ?_
       intro o1 h hK
       refine lpA (β := (List (List GI2)) × Int × Int) 10000000 (fun x => [(.s 0, some (.v (.d (.row .bor 1 (Rw (cL .bor 2 GI2.cells) x.2.1))))), (.s 1, some (.v (V.int x.2.2.1))), (.s 5, some (.v (V.int x.2.2.2)))]) (fun x => Yes (laws_szValSS.l1 x.1 x.2.1 x.2.2.1 x.2.2.2) o1) (_, _, _, _) h ?_
       rintro ⟨_ | k, a1, a2, a3⟩ h
       · simp only [laws_szValSS.l1] at h; exact h.none
       simp only [laws_szValSS.l1] at h
   ))
 | ((with_reducible refine fi 61 ?_ ?_); (focus (with_reducible assumption))
    first
    | (with_reducible refine here_loop (c := (.seq (.seq (.region 3 _ _) _) _)) ?_
       revert h
       with_reducible refine bind_elimY ?_
       intro o1 h hK
       refine lpA (β := (List GI2) × (List GI2) × Int) 10000000 (fun x => [(.s 0, some (.v (.d (.row .bor 2 (Rw GI2.cells x.2.2.1))))), (.s 3, some (.v (.sl 256 2 0 x.2.1.length))), (.s 4, some (.v (V.int x.2.2.2))), (.r 256, some (.o 2 (dd (Rw GI2.cells x.2.1))))]) (fun x => Yes (laws_toInsS.l1 x.1 x.2.1 x.2.2.1 x.2.2.2) o1) (_, _, _, _) h ?_
       rintro ⟨_ | k, a1, a2, a3⟩ h
       · simp only [laws_toInsS.l1] at h; exact h.none
       simp only [laws_toInsS.l1] at h
   ))
 | ((with_reducible refine fi 42 ?_ ?_); (focus (with_reducible assumption))
    first
    | (with_reducible refine here_loop (c := (.seq (.seq (.region 3 _ _) _) _)) ?_
       revert h
       with_reducible refine bind_elimY ?_
       intro o1 h hK
       refine lpA (β := (List GI2) × (List GI2) × Int) 10000000 (fun x => [(.s 0, some (.v (.d (.row .bor 2 (Rw GI2.cells x.2.2.1))))), (.s 3, some (.v (.sl 256 2 0 x.2.1.length))), (.s 4, some (.v (V.int x.2.2.2))), (.r 256, some (.o 2 (dd (Rw GI2.cells x.2.1))))]) (fun x => Yes (laws_toValS.l1 x.1 x.2.1 x.2.2.1 x.2.2.2) o1) (_, _, _, _) h ?_
       rintro ⟨_ | k, a1, a2, a3⟩ h
       · simp only [laws_toValS.l1] at h; exact h.none
       simp only [laws_toValS.l1] at h
   ))
 | (with_reducible refine here_next ?_
    first | refine nxA (_, _, _, _) h)
 | (with_reducible refine here_meet ?_
    first | refine mtA _ h | refine mtA (_, _, _) h | refine mtA (_, _, _, _, _) h)
 | with_reducible refine sw_seq ?_
 | with_reducible refine seqQ_ret ?_
 | with_reducible refine seqQ_exit ?_
 | ((with_reducible refine fi 61 ?_ ?_); (focus (with_reducible assumption))
    first
    | (with_reducible refine gh_nilRow 2 .own 2 ?_ ?_
       · simp only [lkd, lkb, reduceCtorEq, Nat.reduceEqDiff]; done
       skip))
 | ((with_reducible refine fi 42 ?_ ?_); (focus (with_reducible assumption))
    first
    | (with_reducible refine gh_nilRow 2 .own 2 ?_ ?_
       · simp only [lkd, lkb, reduceCtorEq, Nat.reduceEqDiff]; done
       skip))
 | ((with_reducible refine wp_ite ?_ ?_)
    all_goals (intro hc; (try (simp only [Bool.not_eq_true, Bool.not_eq_false] at hc)); simp only [hc]))
 | (with_reducible refine rskip (hs := ?_) (h2 := ?_)
    · simp only [lkd, lkb, reduceCtorEq, Nat.reduceEqDiff]; done)
 | (with_reducible refine ryes (hs := ?_) (h := ?_)
    · simp only [lkd, lkb, reduceCtorEq, Nat.reduceEqDiff]; done)
 | (with_reducible refine rno (hs := ?_) (h := ?_)
    · simp only [lkd, lkb, reduceCtorEq, Nat.reduceEqDiff, Bool.not_true, Bool.not_false]; done)
 | (with_reducible apply regW_guardN
    · simp only [dstOk, Nat.reduceLT]
    · rfl
    · simp only [lkd, lkb, reduceCtorEq, Nat.reduceEqDiff]; rfl
    all_goals (intro hc; (try (simp only [Bool.not_true, Bool.not_false] at hc))))
 | (with_reducible apply sw_cond
    · simp only [lkd, lkb, reduceCtorEq, Nat.reduceEqDiff]; rfl
    all_goals (intro hc; try (cases hc; done)))
 | ((first
     | ((with_reducible refine gh_ret ?_)
        revert h
        with_reducible refine some_elim ?_
        rintro rfl)
     | (with_reducible refine here_call ?_
        revert h
        with_reducible refine bind_elim ?_
        intro t ht h
        (first
          | ((first
              | ((with_reducible refine here_call (f := 74) ?_); refine call_dataE (c_impl_in ht) ?_ rfl ?_)
              | ((with_reducible refine here_call (f := 75) ?_); refine call_dataE (c_impl_opNames ht) ?_ rfl ?_)
              | ((with_reducible refine here_call (f := 45) ?_); refine call_dataE (c_strconv_FormatInt ht) ?_ rfl ?_)
              | ((with_reducible refine here_call (f := 66) ?_); refine call_dataE (c_impl_prog_code ht) ?_ rfl ?_)
              | ((with_reducible refine here_call (f := 65) ?_); refine call_dataE (c_impl_hasFunc ht) ?_ rfl ?_)
              | ((with_reducible refine here_call (f := 84) ?_); refine call_dataE (c_slices_Equal_impl_Mov_impl_Mov ht) ?_ rfl ?_)
              | ((with_reducible refine here_call (f := 85) ?_); refine call_dataE (c_slices_Equal_impl_Val_impl_Val ht) ?_ rfl ?_)
              | ((with_reducible refine here_call (f := 39) ?_); refine call_dataE (c_spec_OpName ht) ?_ rfl ?_)
              | ((with_reducible refine here_call (f := 59) ?_); refine call_dataE (c_spec_l03Binary ht) ?_ rfl ?_)
              | ((with_reducible refine here_call (f := 60) ?_); refine call_dataE (c_spec_l03Unary ht) ?_ rfl ?_)
              | ((with_reducible refine here_call (f := 57) ?_); refine call_dataE (c_spec_l10Loc ht) ?_ rfl ?_)
              | ((with_reducible refine here_call (f := 96) ?_); refine call_dataE (c_laws_eqIns ht) ?_ rfl ?_)
              | ((with_reducible refine here_call (f := 78) ?_); refine call_dataE (c_laws_eqVal ht) ?_ rfl ?_)
              | ((with_reducible refine here_call (f := 34) ?_); refine call_dataE (c_laws_szValS ht) ?_ rfl ?_)
              | ((with_reducible refine here_call (f := 52) ?_); refine call_dataE (c_laws_szMovS ht) ?_ rfl ?_)
              | ((with_reducible refine here_call (f := 51) ?_); refine call_dataE (c_laws_szInsS ht) ?_ rfl ?_)
              | ((with_reducible refine here_call (f := 80) ?_); refine call_dataE (c_laws_toIns ht) ?_ rfl ?_)
              | ((with_reducible refine here_call (f := 63) ?_); refine call_dataE (c_laws_toVal ht) ?_ rfl ?_))
             · first | rfl | (simp; done))))
     | (with_reducible (first | refine ropD (h := ?_) | refine ropW (h := ?_))
        intro k hk)
     | skip)
    simp only [bn, lkb, evb, evd, Value.oneCell', setSeg, reduceCtorEq, Nat.reduceAdd, Nat.reduceMul, Nat.reduceSub, Nat.reduceLT, Nat.reduceLeDiff, Nat.reduceEqDiff, Int.reduceNeg, Int.reduceToNat, ty2, ty3, ty4, ty9, ty26, ty32, ty34, ty50, ty51, ty53, ty56, ty58, ty67, ty69, ty71, ty72, ty74, ty77, ty79, ty80, ty90, ty105, ty109, ty113, ty114, ty118, ty132, ty135, GAsmIns.cells, GFunc.cells, GI2.cells, GMov.cells, GProgram.cells, Gprog.cells, cI, cB, cS, cL, GI2_e, GFunc_e, GProgram_e, Gprog_e, GMov_e, GAsmIns_e, LcIi64_e, LGI2_e, nilEqP, ne_eq, not_false_eq_true, not_true_eq_false, bst, *]
    try (refine hk.use _ _ _ _ ?_; clear hk k))
 | fail)
  all_goals (try rfl)
  all_goals (try (simp; done))
  all_goals (try (simp_all; done))
def c_impl_OpName := @And.left _ _ ge2
def c_impl_digits := @And.left _ _ (@And.right _ _ ge2)
def c_impl_isArith := @And.left _ _ (@And.right _ _ (@And.right _ _ ge2))
def c_impl_isBinary := @And.left _ _ (@And.right _ _ (@And.right _ _ (@And.right _ _ ge2)))
def c_impl_isLoc := @And.left _ _ (@And.right _ _ (@And.right _ _ (@And.right _ _ (@And.right _ _ ge2))))
def c_impl_isUnary := @And.left _ _ (@And.right _ _ (@And.right _ _ (@And.right _ _ (@And.right _ _ (@And.right _ _ ge2)))))
def c_impl_prog_place := @And.left _ _ (@And.right _ _ (@And.right _ _ (@And.right _ _ (@And.right _ _ (@And.right _ _ (@And.right _ _ ge2))))))
def c_impl_prog_reached := @And.left _ _ (@And.right _ _ (@And.right _ _ (@And.right _ _ (@And.right _ _ (@And.right _ _ (@And.right _ _ (@And.right _ _ ge2)))))))
def c_impl_sameIns := @And.left _ _ (@And.right _ _ (@And.right _ _ (@And.right _ _ (@And.right _ _ (@And.right _ _ (@And.right _ _ (@And.right _ _ (@And.right _ _ ge2))))))))
def c_spec_InsRight := @And.left _ _ (@And.right _ _ (@And.right _ _ (@And.right _ _ (@And.right _ _ (@And.right _ _ (@And.right _ _ (@And.right _ _ (@And.right _ _ (@And.right _ _ ge2)))))))))
def c_spec_Puts := @And.left _ _ (@And.right _ _ (@And.right _ _ (@And.right _ _ (@And.right _ _ (@And.right _ _ (@And.right _ _ (@And.right _ _ (@And.right _ _ (@And.right _ _ (@And.right _ _ ge2))))))))))
def c_spec_Takes := @And.left _ _ (@And.right _ _ (@And.right _ _ (@And.right _ _ (@And.right _ _ (@And.right _ _ (@And.right _ _ (@And.right _ _ (@And.right _ _ (@And.right _ _ (@And.right _ _ (@And.right _ _ ge2)))))))))))
def c_spec_l10Val := @And.left _ _ (@And.right _ _ (@And.right _ _ (@And.right _ _ (@And.right _ _ (@And.right _ _ (@And.right _ _ (@And.right _ _ (@And.right _ _ (@And.right _ _ (@And.right _ _ (@And.right _ _ (@And.right _ _ ge2))))))))))))
def c_spec_l19Name := @And.left _ _ (@And.right _ _ (@And.right _ _ (@And.right _ _ (@And.right _ _ (@And.right _ _ (@And.right _ _ (@And.right _ _ (@And.right _ _ (@And.right _ _ (@And.right _ _ (@And.right _ _ (@And.right _ _ (@And.right _ _ ge2)))))))))))))
def c_laws_eqInsS := @And.left _ _ (@And.right _ _ (@And.right _ _ (@And.right _ _ (@And.right _ _ (@And.right _ _ (@And.right _ _ (@And.right _ _ (@And.right _ _ (@And.right _ _ (@And.right _ _ (@And.right _ _ (@And.right _ _ (@And.right _ _ (@And.right _ _ ge2))))))))))))))
def c_laws_eqMov := @And.left _ _ (@And.right _ _ (@And.right _ _ (@And.right _ _ (@And.right _ _ (@And.right _ _ (@And.right _ _ (@And.right _ _ (@And.right _ _ (@And.right _ _ (@And.right _ _ (@And.right _ _ (@And.right _ _ (@And.right _ _ (@And.right _ _ (@And.right _ _ ge2)))))))))))))))
def c_laws_eqValS := @And.left _ _ (@And.right _ _ (@And.right _ _ (@And.right _ _ (@And.right _ _ (@And.right _ _ (@And.right _ _ (@And.right _ _ (@And.right _ _ (@And.right _ _ (@And.right _ _ (@And.right _ _ (@And.right _ _ (@And.right _ _ (@And.right _ _ (@And.right _ _ (@And.right _ _ ge2))))))))))))))))
def c_laws_szAsmIns := @And.left _ _ (@And.right _ _ (@And.right _ _ (@And.right _ _ (@And.right _ _ (@And.right _ _ (@And.right _ _ (@And.right _ _ (@And.right _ _ (@And.right _ _ (@And.right _ _ (@And.right _ _ (@And.right _ _ (@And.right _ _ (@And.right _ _ (@And.right _ _ (@And.right _ _ (@And.right _ _ ge2)))))))))))))))))
def c_laws_szFunc := @And.left _ _ (@And.right _ _ (@And.right _ _ (@And.right _ _ (@And.right _ _ (@And.right _ _ (@And.right _ _ (@And.right _ _ (@And.right _ _ (@And.right _ _ (@And.right _ _ (@And.right _ _ (@And.right _ _ (@And.right _ _ (@And.right _ _ (@And.right _ _ (@And.right _ _ (@And.right _ _ (@And.right _ _ ge2))))))))))))))))))
def c_laws_szValSS := @And.left _ _ (@And.right _ _ (@And.right _ _ (@And.right _ _ (@And.right _ _ (@And.right _ _ (@And.right _ _ (@And.right _ _ (@And.right _ _ (@And.right _ _ (@And.right _ _ (@And.right _ _ (@And.right _ _ (@And.right _ _ (@And.right _ _ (@And.right _ _ (@And.right _ _ (@And.right _ _ (@And.right _ _ (@And.right _ _ ge2)))))))))))))))))))
def c_laws_toInsS := @And.left _ _ (@And.right _ _ (@And.right _ _ (@And.right _ _ (@And.right _ _ (@And.right _ _ (@And.right _ _ (@And.right _ _ (@And.right _ _ (@And.right _ _ (@And.right _ _ (@And.right _ _ (@And.right _ _ (@And.right _ _ (@And.right _ _ (@And.right _ _ (@And.right _ _ (@And.right _ _ (@And.right _ _ (@And.right _ _ (@And.right _ _ ge2))))))))))))))))))))
def c_laws_toMov := @And.left _ _ (@And.right _ _ (@And.right _ _ (@And.right _ _ (@And.right _ _ (@And.right _ _ (@And.right _ _ (@And.right _ _ (@And.right _ _ (@And.right _ _ (@And.right _ _ (@And.right _ _ (@And.right _ _ (@And.right _ _ (@And.right _ _ (@And.right _ _ (@And.right _ _ (@And.right _ _ (@And.right _ _ (@And.right _ _ (@And.right _ _ (@And.right _ _ ge2)))))))))))))))))))))
def c_laws_toValS := (@And.right _ _ (@And.right _ _ (@And.right _ _ (@And.right _ _ (@And.right _ _ (@And.right _ _ (@And.right _ _ (@And.right _ _ (@And.right _ _ (@And.right _ _ (@And.right _ _ (@And.right _ _ (@And.right _ _ (@And.right _ _ (@And.right _ _ (@And.right _ _ (@And.right _ _ (@And.right _ _ (@And.right _ _ (@And.right _ _ (@And.right _ _ (@And.right _ _ ge2))))))))))))))))))))))
end Go.Proofs.YtfdgjiifeijjfaaGreatDoor