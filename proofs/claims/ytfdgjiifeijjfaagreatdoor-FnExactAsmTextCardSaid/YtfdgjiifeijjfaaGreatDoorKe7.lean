/- WHAT IS PROVED: an abstract walker over the model, what some functions of the program answer, and laws of these answers. Conditions: none. -/
import Derived.Test.YtfdgjiifeijjfaaGreatDoorKe6
namespace Go.Proofs.YtfdgjiifeijjfaaGreatDoor
open Go.Proofs Go.Proofs.YtfdgjiifeijjfaaGreatDoor.L
set_option maxHeartbeats 8000000
set_option linter.unusedSimpArgs false
set_option linter.unusedVariables false
set_option maxRecDepth 100000
set_option linter.defProp false
def impl_InsRight.a2 (k : Nat) (a1 : (List GFunc)) (a2 : GI2) (a3 : Int) (a4 : Int) : Option ((List GFunc) × GI2 × Int × Int × Bool) :=
  cond ((a4 == 2)) (some (a1, a2, a3, a4, true)) (some (a1, a2, a3, a4, (a4 == 3)))
def impl_InsRight.a3 (k : Nat) (a1 : (List GFunc)) (a2 : GI2) (a3 : Int) (a4 : Int) : Option ((List GFunc) × GI2 × Int × Int × Bool) :=
  cond ((a4 == 30)) (some (a1, a2, a3, a4, true)) (some (a1, a2, a3, a4, (a4 == 31)))
def impl_InsRight.a1 (k : Nat) (a1 : (List GFunc)) (a2 : GI2) (a3 : Int) : Option ((Bool) ⊕ (GI2)) :=
  cond ((a2.a == 1)) (some (.inl (true))) ((impl_InsRight.a2 k a1 a2 a3 a2.a).bind fun o2 => cond o2.2.2.2.2 (cond ((decide (o2.2.1.b ≥ 0))) ((idx o2.1 o2.2.2.1).bind fun m2 => some (.inl ((decide (o2.2.1.b < m2.locals))))) (some (.inl (false)))) ((impl_InsRight.a3 k o2.1 o2.2.1 o2.2.2.1 o2.2.2.2.1).bind fun o3 => cond o3.2.2.2.2 (cond ((decide (o3.2.1.b ≥ 0))) ((idx o3.1 o3.2.2.1).bind fun m3 => some (.inl ((decide (o3.2.1.b < ((m3.code.length : Int))))))) (some (.inl (false)))) (cond ((o3.2.2.2.1 == 32)) ((impl_hasFunc ((⟨o3.1⟩ : GProgram)) o3.2.1.b).bind fun t4 => some (.inl (t4))) (some (.inr (o3.2.1))))))
def impl_InsRight (k : Nat) (p0 : GProgram) (p1 : Int) (p2 : GI2) : Option (Bool) :=
  (impl_hasFunc p0 p1).bind fun t1 => cond ((!t1)) (some false) ((impl_InsRight.a1 k p0.funcs p2 p1).bind fun o1 => Sum.elim (fun o1l => some o1l) (fun o1r => (impl_OpName o1r.a).bind fun t5 => cond ((!(t5.toList == ((⟨#[]⟩ : ByteArray)).toList))) (some ((o1r.b == 0))) (some false)) o1)
def impl_Puts (p0 : GI2) : Option (Int) :=
  cond ((p0.a == 4)) (some 2) (cond ((p0.a == 1)) (some 1) (cond ((p0.a == 2)) (some 1) (cond ((p0.a == 32)) (some 1) (cond ((p0.a == 34)) (some 1) (cond ((p0.a == 35)) (some 1) (cond ((p0.a == 37)) (some 1) ((impl_isArith p0.a).bind fun t1 => cond t1 (some 1) (some 0))))))))
def impl_Takes.a2 (k : Nat) (a1 : (List GFunc)) (a2 : GI2) : Option ((List GFunc) × GI2 × Bool) :=
  (impl_isBinary a2.a).bind fun t1 => cond t1 (some (a1, a2, true)) (some (a1, a2, (a2.a == 35)))
def impl_Takes.a1 (k : Nat) (a1 : (List GFunc)) (a2 : GI2) : Option ((Int) ⊕ (GI2)) :=
  (impl_Takes.a2 k a1 a2).bind fun o2 => cond o2.2.2 (some (.inl (2))) (cond ((o2.2.1.a == 36)) (some (.inl (3))) (cond ((o2.2.1.a == 32)) ((impl_hasFunc ((⟨o2.1⟩ : GProgram)) o2.2.1.b).bind fun t2 => cond t2 ((idx o2.1 o2.2.1.b).bind fun m3 => some (.inl (m3.args))) (some (.inl (0)))) ((impl_isUnary o2.2.1.a).bind fun t4 => cond t4 (some (.inl (1))) (some (.inr (o2.2.1))))))
def impl_Takes (k : Nat) (p0 : GProgram) (p1 : GI2) : Option (Int) :=
  (impl_Takes.a1 k p0.funcs p1).bind fun o1 => Sum.elim (fun o1l => some o1l) (fun o1r => cond ((o1r.a == 3)) (some 1) (cond ((o1r.a == 4)) (some 1) (cond ((o1r.a == 5)) (some 1) (cond ((o1r.a == 31)) (some 1) (cond ((o1r.a == 33)) (some 1) (cond ((o1r.a == 34)) (some 1) (cond ((o1r.a == 37)) (some 1) (cond ((o1r.a == 38)) (some 1) (some 0))))))))) o1
def impl_Val_right (p0 : GI2) : Option (Bool) :=
  cond ((p0.a == 0)) (some ((p0.b == 0))) (cond ((p0.a == 1)) ((impl_isLoc p0.b).bind fun t1 => some t1) (some ((p0.a == 2))))
def impl_asmName (p0 : Int) : Option (ByteArray) :=
  cond ((p0 == 0)) (some ((⟨#[110, 111, 112]⟩ : ByteArray))) (cond ((p0 == 1)) (some ((⟨#[109, 111, 118, 101]⟩ : ByteArray))) (cond ((p0 == 3)) (some ((⟨#[103, 117, 97, 114, 100]⟩ : ByteArray))) (cond ((decide (p0 < 10))) (some ((⟨#[]⟩ : ByteArray))) ((impl_OpName p0).bind fun t1 => some t1))))
def impl_valText (p0 : GI2) : Option (ByteArray) :=
  cond ((p0.a == 0)) (some ((⟨#[45]⟩ : ByteArray))) (cond ((p0.a == 2)) ((impl_digits p0.b).bind fun t1 => gd (((⟨#[35]⟩ : ByteArray)).size + t1.size ≤ 9223372036854775807) (some ((((⟨#[35]⟩ : ByteArray)) ++ t1)))) (cond ((decide (p0.b < 6))) ((impl_digits p0.b).bind fun t2 => gd (((⟨#[114]⟩ : ByteArray)).size + t2.size ≤ 9223372036854775807) (some ((((⟨#[114]⟩ : ByteArray)) ++ t2)))) ((impl_digits ((IntKind.i64.wrap (p0.b - 6)))).bind fun t3 => gd (((⟨#[109]⟩ : ByteArray)).size + t3.size ≤ 9223372036854775807) (some ((((⟨#[109]⟩ : ByteArray)) ++ t3))))))
def spec_ValText (k : Nat) (p0 : GI2) : Option (ByteArray) :=
  (spec_l10Val p0).bind fun t1 => cond ((!t1)) (some ((⟨#[]⟩ : ByteArray))) (cond ((p0.a == 0)) (some ((⟨#[45]⟩ : ByteArray))) (cond ((p0.a == 2)) ((spec_l01Dec k p0.b).bind fun t2 => gd (((⟨#[35]⟩ : ByteArray)).size + t2.size ≤ 9223372036854775807) (some ((((⟨#[35]⟩ : ByteArray)) ++ t2)))) (cond ((decide (p0.b < 6))) ((spec_l01Dec k p0.b).bind fun t3 => gd (((⟨#[114]⟩ : ByteArray)).size + t3.size ≤ 9223372036854775807) (some ((((⟨#[114]⟩ : ByteArray)) ++ t3)))) ((spec_l01Dec k ((IntKind.i64.wrap (p0.b - 6)))).bind fun t4 => gd (((⟨#[109]⟩ : ByteArray)).size + t4.size ≤ 9223372036854775807) (some ((((⟨#[109]⟩ : ByteArray)) ++ t4)))))))
def spec_l04Heights.l1 : Nat → (List GFunc) → GI3 → (List Int) → Int → (List GI2) → Int → Option ((List GFunc) × GI3 × (List Int) × Int × (List GI2))
  | 0, _, _, _, _, _, _ => none
  | k + 1, a1, a2, a3, a4, a5, a6 => cond ((decide (a6 < ((a3.length : Int))))) ((idx a3 a6).bind fun m2 => spec_l04Heights.l1 k a1 a2 ((a3.set a6.toNat ((-1)))) a4 a5 ((IntKind.i64.wrap (a6 + 1)))) (some (a1, a2, a3, a4, a5))
def spec_l04Heights.a3 (k : Nat) (a1 : (List GFunc)) (a2 : GI3) (a3 : (List Int)) (a4 : (List Bool)) (a5 : GI2) (a6 : GI3) (a7 : Int) (a8 : (List GI2)) (a9 : Int) (a10 : Int) (a11 : Int) : Option (((List Int) × GI3) ⊕ ((List GFunc) × GI3 × (List Int) × (List Bool) × GI2 × GI3 × Int × (List GI2) × Int × Int)) :=
  (idx a3 a9).bind fun m11 => cond ((decide (a10 > m11))) (some (.inl (a3, a6))) (cond ((decide (a11 > 8))) (some (.inl (a3, a6))) (some (.inr (a1, a2, a3, a4, a5, a6, a7, a8, a9, a11))))
def spec_l04Heights.a4 (k : Nat) (a1 : (List GFunc)) (a2 : GI3) (a3 : (List Int)) (a4 : (List Bool)) (a5 : GI2) (a6 : GI3) (a7 : (List Int)) (a8 : Int) (a9 : (List GI2)) (a10 : Int) (a11 : Int) : Option ((List GFunc) × GI3 × (List Int) × (List Bool) × GI2 × GI3 × Int × (List GI2) × Int × (List Int)) :=
  cond ((a5.a != 30)) (cond ((a5.a != 33)) (gd ((a7.length + 1) * 8 ≤ 35184372088832 ∧ a7.length + 1 ≤ 35184372088832) (some (a1, a2, a3, a4, a5, a6, a8, a9, a11, (a7 ++ [(IntKind.i64.wrap (a10 + 1))])))) (some (a1, a2, a3, a4, a5, a6, a8, a9, a11, a7))) (some (a1, a2, a3, a4, a5, a6, a8, a9, a11, a7))
def spec_l04Heights.a5 (k : Nat) (a1 : (List GFunc)) (a2 : GI3) (a3 : (List Int)) (a4 : (List Bool)) (a5 : GI2) (a6 : GI3) (a7 : (List Int)) (a8 : Int) (a9 : (List GI2)) (a10 : Int) : Option ((List GFunc) × GI3 × (List Int) × (List Bool) × GI3 × Int × (List GI2) × Int × (List Int)) :=
  cond ((a5.a == 30)) (gd ((a7.length + 1) * 8 ≤ 35184372088832 ∧ a7.length + 1 ≤ 35184372088832) (some (a1, a2, a3, a4, a6, a8, a9, a10, (a7 ++ [a5.b])))) (cond ((a5.a == 31)) (gd ((a7.length + 1) * 8 ≤ 35184372088832 ∧ a7.length + 1 ≤ 35184372088832) (some (a1, a2, a3, a4, a6, a8, a9, a10, (a7 ++ [a5.b])))) (some (a1, a2, a3, a4, a6, a8, a9, a10, a7)))
def spec_l04Heights.a7 (k : Nat) (a1 : (List GFunc)) (a2 : GI3) (a3 : (List Int)) (a4 : (List Bool)) (a5 : GI3) (a6 : (List Int)) (a7 : Int) (a8 : (List GI2)) (a9 : Int) (a10 : Int) : Option (((List Int) × GI3) ⊕ ((List GFunc) × GI3 × (List Int) × (List Bool) × GI3 × (List Int) × Int × (List GI2) × Int × Int)) :=
  (idx a6 a10).bind fun m13 => (idx a3 m13).bind fun m14 => cond ((decide (m14 ≥ 0))) (cond ((m14 != a9)) (some (.inl (a3, a5))) (some (.inr (a1, a2, a3, a4, a5, a6, a7, a8, a9, a10)))) (some (.inr (a1, a2, a3, a4, a5, a6, a7, a8, a9, a10)))
def spec_l04Heights.l6 : Nat → (List GFunc) → GI3 → (List Int) → (List Bool) → GI3 → (List Int) → Int → (List GI2) → Int → Int → Option (((List Int) × GI3) ⊕ ((List GFunc) × GI3 × (List Int) × (List Bool) × Int × (List GI2)))
  | 0, _, _, _, _, _, _, _, _, _, _ => none
  | k + 1, a1, a2, a3, a4, a5, a6, a7, a8, a9, a10 => cond ((decide (a10 < ((a6.length : Int))))) ((idx a6 a10).bind fun m12 => cond ((decide (m12 ≥ ((a8.length : Int))))) (some (.inl (a3, (⟨a5.a, a5.b, 6⟩ : GI3)))) ((spec_l04Heights.a7 k a1 a2 a3 a4 a5 a6 a7 a8 a9 a10).bind fun o7 => Sum.elim (fun o7l => some (.inl (o7l.1, o7l.2))) (fun o7r => (idx o7r.2.2.2.2.2.1 o7r.2.2.2.2.2.2.2.2.2).bind fun m15 => (idx o7r.2.2.1 m15).bind fun m16 => cond ((decide (m16 < 0))) ((idx o7r.2.2.2.1 m15).bind fun m17 => spec_l04Heights.l6 k o7r.1 o7r.2.1 ((o7r.2.2.1.set m15.toNat o7r.2.2.2.2.2.2.2.2.1)) ((o7r.2.2.2.1.set m15.toNat true)) o7r.2.2.2.2.1 o7r.2.2.2.2.2.1 o7r.2.2.2.2.2.2.1 o7r.2.2.2.2.2.2.2.1 o7r.2.2.2.2.2.2.2.2.1 ((IntKind.i64.wrap (o7r.2.2.2.2.2.2.2.2.2 + 1)))) (spec_l04Heights.l6 k o7r.1 o7r.2.1 o7r.2.2.1 o7r.2.2.2.1 o7r.2.2.2.2.1 o7r.2.2.2.2.2.1 o7r.2.2.2.2.2.2.1 o7r.2.2.2.2.2.2.2.1 o7r.2.2.2.2.2.2.2.2.1 ((IntKind.i64.wrap (o7r.2.2.2.2.2.2.2.2.2 + 1))))) o7)) (some (.inr (a1, a2, a3, a4, a7, a8)))
def spec_l04Heights.l2 : Nat → (List GFunc) → GI3 → (List Int) → (List Bool) → Int → (List GI2) → Option ((List Int) × GI3)
  | 0, _, _, _, _, _, _ => none
  | k + 1, a1, a2, a3, a4, a5, a6 => (spec_l04Least k a4).bind fun t5 => cond ((decide (t5 < 0))) (some (a3, (⟨0, 0, 0⟩ : GI3))) ((idx a4 t5).bind fun m6 => (idx a6 t5).bind fun m7 => (spec_Takes k ((⟨a1⟩ : GProgram)) m7).bind fun t8 => (idx a3 t5).bind fun m9 => (spec_Puts k m7).bind fun t10 => (spec_l04Heights.a3 k a1 a2 a3 ((a4.set t5.toNat false)) m7 ((⟨a5, t5, 5⟩ : GI3)) a5 a6 t5 t8 ((IntKind.i64.wrap (((IntKind.i64.wrap (m9 - t8))) + t10)))).bind fun o3 => Sum.elim (fun o3l => some (o3l.1, o3l.2)) (fun o3r => (spec_l04Heights.a4 k o3r.1 o3r.2.1 o3r.2.2.1 o3r.2.2.2.1 o3r.2.2.2.2.1 o3r.2.2.2.2.2.1 [] o3r.2.2.2.2.2.2.1 o3r.2.2.2.2.2.2.2.1 o3r.2.2.2.2.2.2.2.2.1 o3r.2.2.2.2.2.2.2.2.2).bind fun o4 => (spec_l04Heights.a5 k o4.1 o4.2.1 o4.2.2.1 o4.2.2.2.1 o4.2.2.2.2.1 o4.2.2.2.2.2.1 o4.2.2.2.2.2.2.2.2.2 o4.2.2.2.2.2.2.1 o4.2.2.2.2.2.2.2.1 o4.2.2.2.2.2.2.2.2.1).bind fun o5 => (spec_l04Heights.l6 k o5.1 o5.2.1 o5.2.2.1 o5.2.2.2.1 o5.2.2.2.2.1 o5.2.2.2.2.2.2.2.2 o5.2.2.2.2.2.1 o5.2.2.2.2.2.2.1 o5.2.2.2.2.2.2.2.1 0).bind fun o6 => Sum.elim (fun o6l => some (o6l.1, o6l.2)) (fun o6r => spec_l04Heights.l2 k o6r.1 o6r.2.1 o6r.2.2.1 o6r.2.2.2.1 o6r.2.2.2.2.1 o6r.2.2.2.2.2) o6) o3)
def spec_l04Heights (k : Nat) (p0 : GProgram) (p1 : Int) : Option ((List Int) × GI3) :=
  (idx p0.funcs p1).bind fun m1 => gd (0 ≤ (m1.code.length : Int) ∧ ((m1.code.length : Int)) * 8 ≤ 35184372088832 ∧ (m1.code.length : Int) ≤ 35184372088832) ((spec_l04Heights.l1 k p0.funcs ((⟨0, 0, 0⟩ : GI3)) ((List.replicate m1.code.length 0)) p1 m1.code 0).bind fun o1 => (idx o1.2.2.1 0).bind fun m3 => gd (0 ≤ (o1.2.2.2.2.length : Int) ∧ ((o1.2.2.2.2.length : Int)) * 1 ≤ 35184372088832 ∧ (o1.2.2.2.2.length : Int) ≤ 35184372088832) ((idx ((List.replicate o1.2.2.2.2.length false)) 0).bind fun m4 => (spec_l04Heights.l2 k o1.1 o1.2.1 ((o1.2.2.1.set 0 0)) ((((List.replicate o1.2.2.2.2.length false)).set 0 true)) o1.2.2.2.1 o1.2.2.2.2).bind fun o2 => some (o2.1, o2.2)))
def spec_l10Some (p0 : GI2) : Option (Bool) :=
  (spec_l10Val p0).bind fun t1 => cond t1 (some ((p0.a != 0))) (some false)
def laws_eqFunc (k : Nat) (p0 : GFunc) (p1 : GFunc) : Option (Bool) :=
  cond ((p0.args != p1.args)) (some false) (cond ((p0.locals != p1.locals)) (some false) ((laws_eqInsS k p0.code p1.code).bind fun t1 => cond ((!t1)) (some false) (some true)))
def laws_eqMovS.l1 : Nat → (List GMov) → (List GMov) → Int → Option ((Bool) ⊕ (Unit))
  | 0, _, _, _ => none
  | k + 1, a1, a2, a3 => cond ((decide (a3 < ((a1.length : Int))))) ((idx a1 a3).bind fun m1 => (idx a2 a3).bind fun m2 => (laws_eqMov m1 m2).bind fun t3 => cond ((!t3)) (some (.inl (false))) (laws_eqMovS.l1 k a1 a2 ((IntKind.i64.wrap (a3 + 1))))) (some (.inr ()))
def laws_eqMovS (k : Nat) (p0 : (List GMov)) (p1 : (List GMov)) : Option (Bool) :=
  cond ((((p0.length : Int)) != ((p1.length : Int)))) (some false) ((laws_eqMovS.l1 k p0 p1 0).bind fun o1 => Sum.elim (fun o1l => some o1l) (fun o1r => some true) o1)
def laws_eqValSS.l1 : Nat → (List (List GI2)) → (List (List GI2)) → Int → Option ((Bool) ⊕ (Unit))
  | 0, _, _, _ => none
  | k + 1, a1, a2, a3 => cond ((decide (a3 < ((a1.length : Int))))) ((idx a1 a3).bind fun m1 => (idx a2 a3).bind fun m2 => (laws_eqValS k m1 m2).bind fun t3 => cond ((!t3)) (some (.inl (false))) (laws_eqValSS.l1 k a1 a2 ((IntKind.i64.wrap (a3 + 1))))) (some (.inr ()))
def laws_eqValSS (k : Nat) (p0 : (List (List GI2))) (p1 : (List (List GI2))) : Option (Bool) :=
  cond ((((p0.length : Int)) != ((p1.length : Int)))) (some false) ((laws_eqValSS.l1 k p0 p1 0).bind fun o1 => Sum.elim (fun o1l => some o1l) (fun o1r => some true) o1)
theorem ge3 : (∀ {k : Nat} {p0 : GProgram} {p1 : Int} {p2 : GI2} {r : Bool}, impl_InsRight k p0 p1 p2 = some r → Con Tryz.prog 82 [.agg [.d (.row .bor 3 (Rw (GFunc.cells .bor) p0.funcs))], V.int p1, .agg [V.int p2.a, V.int p2.b]] [] (V.bool r) []) ∧
  (∀ {p0 : GI2} {r : Int}, impl_Puts p0 = some r → Con Tryz.prog 99 [.agg [V.int p0.a, V.int p0.b]] [] (V.int r) []) ∧
  (∀ {k : Nat} {p0 : GProgram} {p1 : GI2} {r : Int}, impl_Takes k p0 p1 = some r → Con Tryz.prog 90 [.agg [.d (.row .bor 3 (Rw (GFunc.cells .bor) p0.funcs))], .agg [V.int p1.a, V.int p1.b]] [] (V.int r) []) ∧
  (∀ {p0 : GI2} {r : Bool}, impl_Val_right p0 = some r → Con Tryz.prog 72 [.agg [V.int p0.a, V.int p0.b]] [] (V.bool r) []) ∧
  (∀ {p0 : Int} {r : ByteArray}, impl_asmName p0 = some r → Con Tryz.prog 28 [V.int p0] [] (.d (.p (.string r))) []) ∧
  (∀ {p0 : GI2} {r : ByteArray}, impl_valText p0 = some r → Con Tryz.prog 26 [.agg [V.int p0.a, V.int p0.b]] [] (.d (.p (.string r))) []) ∧
  (∀ {k : Nat} {p0 : GI2} {r : ByteArray}, spec_ValText k p0 = some r → Con Tryz.prog 19 [.agg [V.int p0.a, V.int p0.b]] [] (.d (.p (.string r))) []) ∧
  (∀ {k : Nat} {p0 : GProgram} {p1 : Int} {r : (List Int) × GI3}, spec_l04Heights k p0 p1 = some r → Con Tryz.prog 36 [.agg [.d (.row .bor 3 (Rw (GFunc.cells .bor) p0.funcs))], V.int p1] [] (.tup [.d (.row .own 1 (Rw (cI .i64) r.1)), .agg [V.int r.2.a, V.int r.2.b, V.int r.2.c]]) []) ∧
  (∀ {p0 : GI2} {r : Bool}, spec_l10Some p0 = some r → Con Tryz.prog 58 [.agg [V.int p0.a, V.int p0.b]] [] (V.bool r) []) ∧
  (∀ {k : Nat} {p0 : GFunc} {p1 : GFunc} {r : Bool}, laws_eqFunc k p0 p1 = some r → Con Tryz.prog 48 [.agg [V.int p0.args, V.int p0.locals, .d (.row .bor 2 (Rw GI2.cells p0.code))], .agg [V.int p1.args, V.int p1.locals, .d (.row .bor 2 (Rw GI2.cells p1.code))]] [] (V.bool r) []) ∧
  (∀ {k : Nat} {p0 : (List GMov)} {p1 : (List GMov)} {r : Bool}, laws_eqMovS k p0 p1 = some r → Con Tryz.prog 77 [.d (.row .bor 3 (Rw GMov.cells p0)), .d (.row .bor 3 (Rw GMov.cells p1))] [] (V.bool r) []) ∧
  (∀ {k : Nat} {p0 : (List (List GI2))} {p1 : (List (List GI2))} {r : Bool}, laws_eqValSS k p0 p1 = some r → Con Tryz.prog 31 [.d (.row .bor 1 (Rw (cL .bor 2 GI2.cells) p0)), .d (.row .bor 1 (Rw (cL .bor 2 GI2.cells) p1))] [] (V.bool r) []) := by
  refine ⟨?_, ?_, ?_, ?_, ?_, ?_, ?_, ?_, ?_, ?_, ?_, ?_⟩
  all_goals intros
  all_goals rename_i h
  all_goals first
    | (with_reducible refine isf 82 ?_
       refine csw Tryz.func82 Tryz.call82 (by simp [Tryz.ntmps82]) (h := ?_)
       refine mkf 82 fun hF => ?_
       rw [Tryz.ntmps82, Tryz.results82]
       unfold impl_InsRight at h)
    | (with_reducible refine isf 99 ?_
       refine csw Tryz.func99 Tryz.call99 (by simp [Tryz.ntmps99]) (h := ?_)
       refine mkf 99 fun hF => ?_
       rw [Tryz.ntmps99, Tryz.results99]
       unfold impl_Puts at h)
    | (with_reducible refine isf 90 ?_
       refine csw Tryz.func90 Tryz.call90 (by simp [Tryz.ntmps90]) (h := ?_)
       refine mkf 90 fun hF => ?_
       rw [Tryz.ntmps90, Tryz.results90]
       unfold impl_Takes at h)
    | (with_reducible refine isf 72 ?_
       refine csw Tryz.func72 Tryz.call72 (by simp [Tryz.ntmps72]) (h := ?_)
       refine mkf 72 fun hF => ?_
       rw [Tryz.ntmps72, Tryz.results72]
       unfold impl_Val_right at h)
    | (with_reducible refine isf 28 ?_
       refine csw Tryz.func28 Tryz.call28 (by simp [Tryz.ntmps28]) (h := ?_)
       refine mkf 28 fun hF => ?_
       rw [Tryz.ntmps28, Tryz.results28]
       unfold impl_asmName at h)
    | (with_reducible refine isf 26 ?_
       refine csw Tryz.func26 Tryz.call26 (by simp [Tryz.ntmps26]) (h := ?_)
       refine mkf 26 fun hF => ?_
       rw [Tryz.ntmps26, Tryz.results26]
       unfold impl_valText at h)
    | (with_reducible refine isf 19 ?_
       refine csw Tryz.func19 Tryz.call19 (by simp [Tryz.ntmps19]) (h := ?_)
       refine mkf 19 fun hF => ?_
       rw [Tryz.ntmps19, Tryz.results19]
       unfold spec_ValText at h)
    | (with_reducible refine isf 36 ?_
       refine csw Tryz.func36 Tryz.call36 (by simp [Tryz.ntmps36]) (h := ?_)
       refine mkf 36 fun hF => ?_
       rw [Tryz.ntmps36, Tryz.results36]
       unfold spec_l04Heights at h)
    | (with_reducible refine isf 58 ?_
       refine csw Tryz.func58 Tryz.call58 (by simp [Tryz.ntmps58]) (h := ?_)
       refine mkf 58 fun hF => ?_
       rw [Tryz.ntmps58, Tryz.results58]
       unfold spec_l10Some at h)
    | (with_reducible refine isf 48 ?_
       refine csw Tryz.func48 Tryz.call48 (by simp [Tryz.ntmps48]) (h := ?_)
       refine mkf 48 fun hF => ?_
       rw [Tryz.ntmps48, Tryz.results48]
       unfold laws_eqFunc at h)
    | (with_reducible refine isf 77 ?_
       refine csw Tryz.func77 Tryz.call77 (by simp [Tryz.ntmps77]) (h := ?_)
       refine mkf 77 fun hF => ?_
       rw [Tryz.ntmps77, Tryz.results77]
       unfold laws_eqMovS at h)
    | (with_reducible refine isf 31 ?_
       refine csw Tryz.func31 Tryz.call31 (by simp [Tryz.ntmps31]) (h := ?_)
       refine mkf 31 fun hF => ?_
       rw [Tryz.ntmps31, Tryz.results31]
       unfold laws_eqValSS at h)
  all_goals (replace h := Yes.mk h; simp only [entryS, entryO, Nat.reduceAdd, List.length_nil, List.length_cons])
  repeat' (first
 | (with_reducible (first | refine sw_reg ?_ | refine sw_ret ?_ | refine sw_skip ?_ | refine sw_block ?_ | refine sw_exit ?_ | refine seqQ_normal ?_ | refine blockQ_normal ?_ | refine blockQ_ret ?_ | refine blockQ_this ?_ | refine blockQ_other (by decide) ?_ | refine regW_nil ?_ | refine sw_draw mixed ?_ | refine retQ_ret ?_ | refine retQ_normal ?_))
 | (with_reducible refine regD_nil ?_
    refine ⟨by kernel_rfl, ?_⟩)
 | (revert h; (first | ((with_reducible refine idx_elim ?_); intro m hm1 hm2 hm3 h; (try (simp only [Int.reduceToNat] at hm3)); (try (revert hm3; (with_reducible apply same_elim); (focus (with_reducible assumption)); rintro rfl)); (try (simp only [List.length_set, List.length_cons, List.length_nil, List.length_replicate, Nat.reduceAdd, Int.cast_ofNat_Int, Nat.zero_add, List.length_append] at hm2))) | (with_reducible refine sidx_elim ?_; intro m hm1 hm3 h) | (with_reducible refine gd_elim ?_; intro hg h; try (have hg2 := hg.2; have hg := hg.1; (try (simp only [Nat.reduceLeDiff] at hg2)); (try (revert hg2; (with_reducible refine toNat_elim hg ?_); intro hg2 hg4)); try (have hg3 := hg2.2; have hg2 := hg2.1; (try (simp only [Nat.reduceLeDiff] at hg3))))) | (with_reducible refine condt_elim ?_ ?_; (focus (with_reducible assumption)); intro h) | (with_reducible refine condf_elim ?_ ?_; (focus (with_reducible assumption)); intro h)))
 | ((with_reducible first | refine pnR ?_ | refine pnE ?_ | refine pmR ?_ | refine pmE ?_)
    obtain rfl := h.get
    have h := hK
    clear hK
    (try (simp only [Sum.elim_inl, Sum.elim_inr] at h)))
 | ((with_reducible refine fi 82 ?_ ?_); (focus (with_reducible assumption))
    first
    | (with_reducible refine here_join (a := (.seq (.region 9 _ _) _)) (b := (.cond (.tmp 32) _ _)) ?_
       revert h
       with_reducible refine bind_elimY ?_
       intro o3 h hK
       unfold impl_InsRight.a3 at h
       refine sw_join (ι := (List GFunc) × GI2 × Int × Int × Bool) 30000000 (fun x => [(.s 1, some (.v (V.int x.2.2.1))), (.s 3, some (.v (.mp 0 1 0 0))), (.s 5, some (.v (.mp 64 2 0 0))), (.s 12, some (.v (V.int x.2.2.2.1))), (.s 32, some (.v (V.bool x.2.2.2.2))), (.r 0, some (.o 1 [[.d (.row .bor 3 (Rw (GFunc.cells .bor) x.1))]])), (.r 64, some (.o 2 [[V.int x.2.1.a, V.int x.2.1.b]]))]) (fun x => Yes (some (x)) o3) ?_ ?_
       rotate_left
       rintro ⟨b1, b2, b3, b4, b5⟩ h
       obtain rfl := h.get
       have h := hK
       clear hK
       (try (simp only [Sum.elim_inl, Sum.elim_inr] at h))
       refine sw_gh ?_
       refine gh_sw ?_)
    | (with_reducible refine here_join (a := (.seq (.region 6 _ _) _)) (b := (.cond (.tmp 15) _ _)) ?_
       revert h
       with_reducible refine bind_elimY ?_
       intro o2 h hK
       unfold impl_InsRight.a2 at h
       refine sw_join (ι := (List GFunc) × GI2 × Int × Int × Bool) 20000000 (fun x => [(.s 1, some (.v (V.int x.2.2.1))), (.s 3, some (.v (.mp 0 1 0 0))), (.s 5, some (.v (.mp 64 2 0 0))), (.s 12, some (.v (V.int x.2.2.2.1))), (.s 15, some (.v (V.bool x.2.2.2.2))), (.r 0, some (.o 1 [[.d (.row .bor 3 (Rw (GFunc.cells .bor) x.1))]])), (.r 64, some (.o 2 [[V.int x.2.1.a, V.int x.2.1.b]]))]) (fun x => Yes (some (x)) o2) ?_ ?_
       rotate_left
       rintro ⟨b1, b2, b3, b4, b5⟩ h
       obtain rfl := h.get
       have h := hK
       clear hK
       (try (simp only [Sum.elim_inl, Sum.elim_inr] at h))
       refine sw_gh ?_
       refine gh_sw ?_)
    | (with_reducible refine here_join (a := (.seq (.region 3 _ _) _)) (b := (.seq (.region 14 _ _) _)) ?_
       revert h
       with_reducible refine bind_elimY ?_
       intro o1 h hK
       unfold impl_InsRight.a1 at h
       refine sw_join (ι := GI2) 10000000 (fun x => [(.s 5, some (.v (.mp 64 2 0 0))), (.r 64, some (.o 2 [[V.int x.a, V.int x.b]]))]) (fun x => Yes (some (.inr x)) o1) ?_ ?_
       rotate_left
       rintro b1 h
       obtain rfl := h.get
       have h := hK
       clear hK
       (try (simp only [Sum.elim_inl, Sum.elim_inr] at h))
       refine sw_gh ?_
       refine gh_sw ?_))
 | ((with_reducible refine fi 90 ?_ ?_); (focus (with_reducible assumption))
    first
    | (with_reducible refine here_join (a := (.seq (.region 1 _ _) _)) (b := (.cond (.tmp 5) _ _)) ?_
       revert h
       with_reducible refine bind_elimY ?_
       intro o2 h hK
       unfold impl_Takes.a2 at h
       refine sw_join (ι := (List GFunc) × GI2 × Bool) 20000000 (fun x => [(.s 2, some (.v (.mp 0 1 0 0))), (.s 3, some (.v (.mp 64 2 0 0))), (.s 5, some (.v (V.bool x.2.2))), (.r 0, some (.o 1 [[.d (.row .bor 3 (Rw (GFunc.cells .bor) x.1))]])), (.r 64, some (.o 2 [[V.int x.2.1.a, V.int x.2.1.b]]))]) (fun x => Yes (some (x)) o2) ?_ ?_
       rotate_left
       rintro ⟨b1, b2, b3⟩ h
       obtain rfl := h.get
       have h := hK
       clear hK
       (try (simp only [Sum.elim_inl, Sum.elim_inr] at h))
       refine sw_gh ?_
       refine gh_sw ?_)
    | (with_reducible refine here_join (a := (.block 0 _)) (b := (.seq (.seq (.region 12 _ _) _) _)) ?_
       revert h
       with_reducible refine bind_elimY ?_
       intro o1 h hK
       unfold impl_Takes.a1 at h
       refine sw_join (ι := GI2) 10000000 (fun x => [(.s 3, some (.v (.mp 64 2 0 0))), (.r 64, some (.o 2 [[V.int x.a, V.int x.b]]))]) (fun x => Yes (some (.inr x)) o1) ?_ ?_
       rotate_left
       rintro b1 h
       obtain rfl := h.get
       have h := hK
       clear hK
       (try (simp only [Sum.elim_inl, Sum.elim_inr] at h))
       refine sw_gh ?_
       refine gh_sw ?_))
 | ((with_reducible refine fi 36 ?_ ?_); (focus (with_reducible assumption))
    first
    | (with_reducible refine here_join (a := (.seq (.region 31 _ _) _)) (b := (.seq (.region 33 _ _) _)) ?_
       revert h
       with_reducible refine bind_elimY ?_
       intro o7 h hK
       unfold spec_l04Heights.a7 at h
       refine sw_join (ι := (List GFunc) × GI3 × (List Int) × (List Bool) × GI3 × (List Int) × Int × (List GI2) × Int × Int) 70000000 (fun x => [(.s 1, some (.v (V.int x.2.2.2.2.2.2.1))), (.s 2, some (.v (.mp 0 1 0 0))), (.s 5, some (.v (.mp 128 3 0 0))), (.s 6, some (.v (.d (.row .bor 2 (Rw GI2.cells x.2.2.2.2.2.2.2.1))))), (.s 7, some (.v (.sl 832 1 0 x.2.2.1.length))), (.s 9, some (.v (.sl 10000640 1 0 x.2.2.2.1.length))), (.s 12, some (.v (.mp 20001152 3 0 0))), (.s 14, some (.v (V.int x.2.2.2.2.2.2.2.2.1))), (.s 15, some (.v (.sl 50000000 1 0 x.2.2.2.2.2.1.length))), (.s 16, some (.v (V.int x.2.2.2.2.2.2.2.2.2))), (.r 0, some (.o 1 [[.d (.row .bor 3 (Rw (GFunc.cells .bor) x.1))]])), (.r 128, some (.o 3 [[V.int x.2.1.a, V.int x.2.1.b, V.int x.2.1.c]])), (.r 832, some (.o 1 (dd (Rw (cI .i64) x.2.2.1)))), (.r 10000640, some (.o 1 (dd (Rw cB x.2.2.2.1)))), (.r 20001152, some (.o 3 [[V.int x.2.2.2.2.1.a, V.int x.2.2.2.2.1.b, V.int x.2.2.2.2.1.c]])), (.r 50000000, some (.o 1 (dd (Rw (cI .i64) x.2.2.2.2.2.1))))]) (fun x => Yes (some (.inr x)) o7) ?_ ?_
       rotate_left
       rintro ⟨b1, b2, b3, b4, b5, b6, b7, b8, b9, b10⟩ h
       obtain rfl := h.get
       have h := hK
       clear hK
       (try (simp only [Sum.elim_inl, Sum.elim_inr] at h))
       refine sw_gh ?_
       refine gh_sw ?_)
    | (with_reducible refine here_loop (c := (.seq (.seq (.region 26 _ _) _) _)) ?_
       revert h
       with_reducible refine bind_elimY ?_
       intro o6 h hK
       refine lpA (β := (List GFunc) × GI3 × (List Int) × (List Bool) × GI3 × (List Int) × Int × (List GI2) × Int × Int) 60000000 (fun x => [(.s 1, some (.v (V.int x.2.2.2.2.2.2.2.1))), (.s 2, some (.v (.mp 0 1 0 0))), (.s 5, some (.v (.mp 128 3 0 0))), (.s 6, some (.v (.d (.row .bor 2 (Rw GI2.cells x.2.2.2.2.2.2.2.2.1))))), (.s 7, some (.v (.sl 832 1 0 x.2.2.2.1.length))), (.s 9, some (.v (.sl 10000640 1 0 x.2.2.2.2.1.length))), (.s 12, some (.v (.mp 20001152 3 0 0))), (.s 14, some (.v (V.int x.2.2.2.2.2.2.2.2.2.1))), (.s 15, some (.v (.sl 50000000 1 0 x.2.2.2.2.2.2.1.length))), (.s 16, some (.v (V.int x.2.2.2.2.2.2.2.2.2.2))), (.r 0, some (.o 1 [[.d (.row .bor 3 (Rw (GFunc.cells .bor) x.2.1))]])), (.r 128, some (.o 3 [[V.int x.2.2.1.a, V.int x.2.2.1.b, V.int x.2.2.1.c]])), (.r 832, some (.o 1 (dd (Rw (cI .i64) x.2.2.2.1)))), (.r 10000640, some (.o 1 (dd (Rw cB x.2.2.2.2.1)))), (.r 20001152, some (.o 3 [[V.int x.2.2.2.2.2.1.a, V.int x.2.2.2.2.2.1.b, V.int x.2.2.2.2.2.1.c]])), (.r 50000000, some (.o 1 (dd (Rw (cI .i64) x.2.2.2.2.2.2.1))))]) (fun x => Yes (spec_l04Heights.l6 x.1 x.2.1 x.2.2.1 x.2.2.2.1 x.2.2.2.2.1 x.2.2.2.2.2.1 x.2.2.2.2.2.2.1 x.2.2.2.2.2.2.2.1 x.2.2.2.2.2.2.2.2.1 x.2.2.2.2.2.2.2.2.2.1 x.2.2.2.2.2.2.2.2.2.2) o6) (_, _, _, _, _, _, _, _, _, _, _) h ?_
       rintro ⟨_ | k, a1, a2, a3, a4, a5, a6, a7, a8, a9, a10⟩ h
       · simp only [spec_l04Heights.l6] at h; exact h.none
       simp only [spec_l04Heights.l6] at h
   )
    | (with_reducible refine here_join (a := (.seq (.region 23 _ _) _)) (b := (.seq (.region 25 _ _) _)) ?_
       revert h
       with_reducible refine bind_elimY ?_
       intro o5 h hK
       unfold spec_l04Heights.a5 at h
       refine sw_join (ι := (List GFunc) × GI3 × (List Int) × (List Bool) × GI3 × Int × (List GI2) × Int × (List Int)) 50000000 (fun x => [(.s 1, some (.v (V.int x.2.2.2.2.2.1))), (.s 2, some (.v (.mp 0 1 0 0))), (.s 5, some (.v (.mp 128 3 0 0))), (.s 6, some (.v (.d (.row .bor 2 (Rw GI2.cells x.2.2.2.2.2.2.1))))), (.s 7, some (.v (.sl 832 1 0 x.2.2.1.length))), (.s 9, some (.v (.sl 10000640 1 0 x.2.2.2.1.length))), (.s 12, some (.v (.mp 20001152 3 0 0))), (.s 14, some (.v (V.int x.2.2.2.2.2.2.2.1))), (.s 15, some (.v (.d (.row .own 1 (Rw (cI .i64) x.2.2.2.2.2.2.2.2))))), (.r 0, some (.o 1 [[.d (.row .bor 3 (Rw (GFunc.cells .bor) x.1))]])), (.r 128, some (.o 3 [[V.int x.2.1.a, V.int x.2.1.b, V.int x.2.1.c]])), (.r 832, some (.o 1 (dd (Rw (cI .i64) x.2.2.1)))), (.r 10000640, some (.o 1 (dd (Rw cB x.2.2.2.1)))), (.r 20001152, some (.o 3 [[V.int x.2.2.2.2.1.a, V.int x.2.2.2.2.1.b, V.int x.2.2.2.2.1.c]]))]) (fun x => Yes (some (x)) o5) ?_ ?_
       rotate_left
       rintro ⟨b1, b2, b3, b4, b5, b6, b7, b8, b9⟩ h
       obtain rfl := h.get
       have h := hK
       clear hK
       (try (simp only [Sum.elim_inl, Sum.elim_inr] at h))
       refine sw_gh ?_
       refine gh_nameSlot 15 ?_
       simp only [rxb, Nat.reduceAdd, Nat.reduceLeDiff, rxd, lkd, lkb, reduceCtorEq, Nat.reduceEqDiff, Nat.reduceAdd]
       refine gh_sw ?_)
    | (with_reducible refine here_meet (N0 := 50000000) ?_
       refine gh_resSlot 15 ?_
       simp only [rxb, Nat.reduceAdd, Nat.reduceLeDiff, rxd, lkd, lkb, reduceCtorEq, Nat.reduceEqDiff, *]
       refine mtA (_, _, _, _, _, _, _, _, _) h)
    | (with_reducible refine here_join (a := (.seq (.region 21 _ _) _)) (b := (.seq (.seq (.region 23 _ _) _) _)) ?_
       revert h
       with_reducible refine bind_elimY ?_
       intro o4 h hK
       unfold spec_l04Heights.a4 at h
       refine sw_join (ι := (List GFunc) × GI3 × (List Int) × (List Bool) × GI2 × GI3 × Int × (List GI2) × Int × (List Int)) 40000000 (fun x => [(.s 1, some (.v (V.int x.2.2.2.2.2.2.1))), (.s 2, some (.v (.mp 0 1 0 0))), (.s 5, some (.v (.mp 128 3 0 0))), (.s 6, some (.v (.d (.row .bor 2 (Rw GI2.cells x.2.2.2.2.2.2.2.1))))), (.s 7, some (.v (.sl 832 1 0 x.2.2.1.length))), (.s 9, some (.v (.sl 10000640 1 0 x.2.2.2.1.length))), (.s 11, some (.v (.mp 20000832 2 0 0))), (.s 12, some (.v (.mp 20001152 3 0 0))), (.s 14, some (.v (V.int x.2.2.2.2.2.2.2.2.1))), (.s 15, some (.v (.d (.row .own 1 (Rw (cI .i64) x.2.2.2.2.2.2.2.2.2))))), (.r 0, some (.o 1 [[.d (.row .bor 3 (Rw (GFunc.cells .bor) x.1))]])), (.r 128, some (.o 3 [[V.int x.2.1.a, V.int x.2.1.b, V.int x.2.1.c]])), (.r 832, some (.o 1 (dd (Rw (cI .i64) x.2.2.1)))), (.r 10000640, some (.o 1 (dd (Rw cB x.2.2.2.1)))), (.r 20000832, some (.o 2 [[V.int x.2.2.2.2.1.a, V.int x.2.2.2.2.1.b]])), (.r 20001152, some (.o 3 [[V.int x.2.2.2.2.2.1.a, V.int x.2.2.2.2.2.1.b, V.int x.2.2.2.2.2.1.c]]))]) (fun x => Yes (some (x)) o4) ?_ ?_
       rotate_left
       rintro ⟨b1, b2, b3, b4, b5, b6, b7, b8, b9, b10⟩ h
       obtain rfl := h.get
       have h := hK
       clear hK
       (try (simp only [Sum.elim_inl, Sum.elim_inr] at h))
       refine sw_gh ?_
       refine gh_nameSlot 15 ?_
       simp only [rxb, Nat.reduceAdd, Nat.reduceLeDiff, rxd, lkd, lkb, reduceCtorEq, Nat.reduceEqDiff, Nat.reduceAdd]
       refine gh_sw ?_)
    | (with_reducible refine here_meet (N0 := 40000000) ?_
       refine gh_resSlot 15 ?_
       simp only [rxb, Nat.reduceAdd, Nat.reduceLeDiff, rxd, lkd, lkb, reduceCtorEq, Nat.reduceEqDiff, *]
       refine mtA (_, _, _, _, _, _, _, _, _, _) h)
    | (with_reducible refine here_join (a := (.seq (.region 18 _ _) _)) (b := (.seq (.region 20 _ _) _)) ?_
       revert h
       with_reducible refine bind_elimY ?_
       intro o3 h hK
       unfold spec_l04Heights.a3 at h
       refine sw_join (ι := (List GFunc) × GI3 × (List Int) × (List Bool) × GI2 × GI3 × Int × (List GI2) × Int × Int) 30000000 (fun x => [(.s 1, some (.v (V.int x.2.2.2.2.2.2.1))), (.s 2, some (.v (.mp 0 1 0 0))), (.s 5, some (.v (.mp 128 3 0 0))), (.s 6, some (.v (.d (.row .bor 2 (Rw GI2.cells x.2.2.2.2.2.2.2.1))))), (.s 7, some (.v (.sl 832 1 0 x.2.2.1.length))), (.s 9, some (.v (.sl 10000640 1 0 x.2.2.2.1.length))), (.s 10, some (.v (V.int x.2.2.2.2.2.2.2.2.1))), (.s 11, some (.v (.mp 20000832 2 0 0))), (.s 12, some (.v (.mp 20001152 3 0 0))), (.s 14, some (.v (V.int x.2.2.2.2.2.2.2.2.2))), (.r 0, some (.o 1 [[.d (.row .bor 3 (Rw (GFunc.cells .bor) x.1))]])), (.r 128, some (.o 3 [[V.int x.2.1.a, V.int x.2.1.b, V.int x.2.1.c]])), (.r 832, some (.o 1 (dd (Rw (cI .i64) x.2.2.1)))), (.r 10000640, some (.o 1 (dd (Rw cB x.2.2.2.1)))), (.r 20000832, some (.o 2 [[V.int x.2.2.2.2.1.a, V.int x.2.2.2.2.1.b]])), (.r 20001152, some (.o 3 [[V.int x.2.2.2.2.2.1.a, V.int x.2.2.2.2.2.1.b, V.int x.2.2.2.2.2.1.c]]))]) (fun x => Yes (some (.inr x)) o3) ?_ ?_
       rotate_left
       rintro ⟨b1, b2, b3, b4, b5, b6, b7, b8, b9, b10⟩ h
       obtain rfl := h.get
       have h := hK
       clear hK
       (try (simp only [Sum.elim_inl, Sum.elim_inr] at h))
       refine sw_gh ?_
       refine gh_sw ?_)
    | (with_reducible refine here_loop (c := (.block 3 _)) ?_
       revert h
       with_reducible refine bind_elimY ?_
       intro o2 h hK
       refine lpA (β := (List GFunc) × GI3 × (List Int) × (List Bool) × Int × (List GI2)) 20000000 (fun x => [(.s 1, some (.v (V.int x.2.2.2.2.2.1))), (.s 2, some (.v (.mp 0 1 0 0))), (.s 5, some (.v (.mp 128 3 0 0))), (.s 6, some (.v (.d (.row .bor 2 (Rw GI2.cells x.2.2.2.2.2.2))))), (.s 7, some (.v (.sl 832 1 0 x.2.2.2.1.length))), (.s 9, some (.v (.sl 10000640 1 0 x.2.2.2.2.1.length))), (.r 0, some (.o 1 [[.d (.row .bor 3 (Rw (GFunc.cells .bor) x.2.1))]])), (.r 128, some (.o 3 [[V.int x.2.2.1.a, V.int x.2.2.1.b, V.int x.2.2.1.c]])), (.r 832, some (.o 1 (dd (Rw (cI .i64) x.2.2.2.1)))), (.r 10000640, some (.o 1 (dd (Rw cB x.2.2.2.2.1))))]) (fun x => Yes (spec_l04Heights.l2 x.1 x.2.1 x.2.2.1 x.2.2.2.1 x.2.2.2.2.1 x.2.2.2.2.2.1 x.2.2.2.2.2.2) o2) (_, _, _, _, _, _, _) h ?_
       rintro ⟨_ | k, a1, a2, a3, a4, a5, a6⟩ h
       · simp only [spec_l04Heights.l2] at h; exact h.none
       simp only [spec_l04Heights.l2] at h
   )
    | (with_reducible refine here_loop (c := (.seq (.seq (.region 4 _ _) _) _)) ?_
       revert h
       with_reducible refine bind_elimY ?_
       intro o1 h hK
       refine lpA (β := (List GFunc) × GI3 × (List Int) × Int × (List GI2) × Int) 10000000 (fun x => [(.s 1, some (.v (V.int x.2.2.2.2.1))), (.s 2, some (.v (.mp 0 1 0 0))), (.s 5, some (.v (.mp 128 3 0 0))), (.s 6, some (.v (.d (.row .bor 2 (Rw GI2.cells x.2.2.2.2.2.1))))), (.s 7, some (.v (.sl 832 1 0 x.2.2.2.1.length))), (.s 8, some (.v (V.int x.2.2.2.2.2.2))), (.r 0, some (.o 1 [[.d (.row .bor 3 (Rw (GFunc.cells .bor) x.2.1))]])), (.r 128, some (.o 3 [[V.int x.2.2.1.a, V.int x.2.2.1.b, V.int x.2.2.1.c]])), (.r 832, some (.o 1 (dd (Rw (cI .i64) x.2.2.2.1))))]) (fun x => Yes (spec_l04Heights.l1 x.1 x.2.1 x.2.2.1 x.2.2.2.1 x.2.2.2.2.1 x.2.2.2.2.2.1 x.2.2.2.2.2.2) o1) (_, _, _, _, _, _, _) h ?_
       rintro ⟨_ | k, a1, a2, a3, a4, a5, a6⟩ h
       · simp only [spec_l04Heights.l1] at h; exact h.none
       simp only [spec_l04Heights.l1] at h
   ))
 | ((with_reducible refine fi 77 ?_ ?_); (focus (with_reducible assumption))
    first
    | (with_reducible refine here_loop (c := (.seq (.seq (.region 4 _ _) _) _)) ?_
       revert h
       with_reducible refine bind_elimY ?_
       intro o1 h hK
       refine lpA (β := (List GMov) × (List GMov) × Int) 10000000 (fun x => [(.s 0, some (.v (.d (.row .bor 3 (Rw GMov.cells x.2.1))))), (.s 1, some (.v (.d (.row .bor 3 (Rw GMov.cells x.2.2.1))))), (.s 5, some (.v (V.int x.2.2.2)))]) (fun x => Yes (laws_eqMovS.l1 x.1 x.2.1 x.2.2.1 x.2.2.2) o1) (_, _, _, _) h ?_
       rintro ⟨_ | k, a1, a2, a3⟩ h
       · simp only [laws_eqMovS.l1] at h; exact h.none
       simp only [laws_eqMovS.l1] at h
   ))
 | ((with_reducible refine fi 31 ?_ ?_); (focus (with_reducible assumption))
    first
    | (with_reducible refine here_loop (c := (.seq (.seq (.region 4 _ _) _) _)) ?_
       revert h
       with_reducible refine bind_elimY ?_
       intro o1 h hK
       refine lpA (β := (List (List GI2)) × (List (List GI2)) × Int) 10000000 (fun x => [(.s 0, some (.v (.d (.row .bor 1 (Rw (cL .bor 2 GI2.cells) x.2.1))))), (.s 1, some (.v (.d (.row .bor 1 (Rw (cL .bor 2 GI2.cells) x.2.2.1))))), (.s 5, some (.v (V.int x.2.2.2)))]) (fun x => Yes (laws_eqValSS.l1 x.1 x.2.1 x.2.2.1 x.2.2.2) o1) (_, _, _, _) h ?_
       rintro ⟨_ | k, a1, a2, a3⟩ h
       · simp only [laws_eqValSS.l1] at h; exact h.none
       simp only [laws_eqValSS.l1] at h
   ))
 | (with_reducible refine here_next ?_
    first | refine nxA (_, _, _, _) h | refine nxA (_, _, _, _, _, _, _) h | refine nxA (_, _, _, _, _, _, _, _, _, _, _) h)
 | (with_reducible refine here_meet ?_
    first | refine mtA _ h | refine mtA (_, _, _) h | refine mtA (_, _, _, _, _) h | refine mtA (_, _, _, _, _, _, _, _, _, _) h)
 | with_reducible refine sw_seq ?_
 | with_reducible refine seqQ_ret ?_
 | with_reducible refine seqQ_exit ?_
 | ((with_reducible refine fi 36 ?_ ?_); (focus (with_reducible assumption))
    first
    | (with_reducible refine gh_nilRow 4 .own 1 ?_ ?_
       · simp only [lkd, lkb, reduceCtorEq, Nat.reduceEqDiff]; done
       skip))
 | ((with_reducible refine wp_ite ?_ ?_)
    all_goals (intro hc; (try (simp only [Bool.not_eq_true, Bool.not_eq_false] at hc)); simp only [hc]))
 | (with_reducible refine rskip (hs := ?_) (h2 := ?_)
    · simp only [lkd, lkb, reduceCtorEq, Nat.reduceEqDiff]; done)
 | (with_reducible refine ryes (hs := ?_) (h := ?_)
    · simp only [lkd, lkb, reduceCtorEq, Nat.reduceEqDiff]; done)
 | (with_reducible refine rno (hs := ?_) (h := ?_)
    · simp only [lkd, lkb, reduceCtorEq, Nat.reduceEqDiff, Bool.not_true, Bool.not_false]; done)
 | (with_reducible apply regW_guardN
    · simp only [dstOk, Nat.reduceLT]
    · rfl
    · simp only [lkd, lkb, reduceCtorEq, Nat.reduceEqDiff]; rfl
    all_goals (intro hc; (try (simp only [Bool.not_true, Bool.not_false] at hc))))
 | (with_reducible apply sw_cond
    · simp only [lkd, lkb, reduceCtorEq, Nat.reduceEqDiff]; rfl
    all_goals (intro hc; try (cases hc; done)))
 | ((first
     | ((with_reducible refine gh_ret ?_)
        revert h
        with_reducible refine some_elim ?_
        rintro rfl)
     | (with_reducible refine here_call ?_
        revert h
        with_reducible refine bind_elim ?_
        intro t ht h
        (first
          | ((first
              | ((with_reducible refine here_call (f := 47) ?_); refine call_dataE (c_impl_OpName ht) ?_ rfl ?_)
              | ((with_reducible refine here_call (f := 65) ?_); refine call_dataE (c_impl_hasFunc ht) ?_ rfl ?_)
              | ((with_reducible refine here_call (f := 91) ?_); refine call_dataE (c_impl_isArith ht) ?_ rfl ?_)
              | ((with_reducible refine here_call (f := 101) ?_); refine call_dataE (c_impl_isBinary ht) ?_ rfl ?_)
              | ((with_reducible refine here_call (f := 102) ?_); refine call_dataE (c_impl_isUnary ht) ?_ rfl ?_)
              | ((with_reducible refine here_call (f := 87) ?_); refine call_dataE (c_impl_isLoc ht) ?_ rfl ?_)
              | ((with_reducible refine here_call (f := 25) ?_); refine call_dataE (c_impl_digits ht) ?_ rfl ?_)
              | ((with_reducible refine here_call (f := 16) ?_); refine call_dataE (c_spec_l01Dec ht) ?_ rfl ?_)
              | ((with_reducible refine here_call (f := 38) ?_); refine call_dataE (c_spec_l10Val ht) ?_ rfl ?_)
              | ((with_reducible refine here_call (f := 55) ?_); refine call_dataE (c_spec_Takes ht) ?_ rfl ?_)
              | ((with_reducible refine here_call (f := 56) ?_); refine call_dataE (c_spec_Puts ht) ?_ rfl ?_)
              | ((with_reducible refine here_call (f := 76) ?_); refine call_dataE (c_laws_eqInsS ht) ?_ rfl ?_)
              | ((with_reducible refine here_call (f := 97) ?_); refine call_dataE (c_laws_eqMov ht) ?_ rfl ?_)
              | ((with_reducible refine here_call (f := 50) ?_); refine call_dataE (c_laws_eqValS ht) ?_ rfl ?_))
             · first | rfl | (simp; done))
          | ((with_reducible refine here_call (f := 54) ?_); refine call_autoE (c_spec_l04Least ht) ?_ ?_ ?_
             · simp only [hyb, hyd, GI2_lend, GFunc_lend, GProgram_lend, GMov_lend, GI3_lend, LcIi64_lend, LGI2_lend, List.take_of_length_le, lkd, lkb, reduceCtorEq, Nat.reduceEqDiff, *]; first | rfl | done
             · first | rfl | (simp only [nbd, nbb, GI2_nb, GFunc_nb, GProgram_nb, GMov_nb, GI3_nb, LcIi64_nb, LGI2_nb]; done)
             simp only [V.namesOf, V.namesOfL, List.foldl_cons, List.foldl_nil, List.nil_append, List.append_nil, List.cons_append])))
     | (with_reducible (first | refine ropD (h := ?_) | refine ropW (h := ?_))
        intro k hk)
     | skip)
    simp only [bn, lkb, evb, evd, Value.oneCell', setSeg, reduceCtorEq, Nat.reduceAdd, Nat.reduceMul, Nat.reduceSub, Nat.reduceLT, Nat.reduceLeDiff, Nat.reduceEqDiff, Int.reduceNeg, Int.reduceToNat, ty2, ty3, ty4, ty9, ty32, ty34, ty37, ty50, ty51, ty56, ty58, ty77, ty79, ty80, ty82, ty102, ty105, GFunc.cells, GI2.cells, GI3.cells, GMov.cells, GProgram.cells, cI, cB, cS, cL, GI2_e, GFunc_e, GProgram_e, GMov_e, GI3_e, LcIi64_e, LGI2_e, buildP, buildSliceP, putParts, structPlaces, chunks, List.replicate, List.flatten_nil, List.flatten_cons, Option.bind_some, bb, nilEqP, ne_eq, not_false_eq_true, not_true_eq_false, bst, *]
    try (refine hk.use _ _ _ _ ?_; clear hk k))
 | fail)
  all_goals (try rfl)
  all_goals (try (simp; done))
  all_goals (try (simp_all; done))
def c_impl_InsRight := @And.left _ _ ge3
def c_impl_Puts := @And.left _ _ (@And.right _ _ ge3)
def c_impl_Takes := @And.left _ _ (@And.right _ _ (@And.right _ _ ge3))
def c_impl_Val_right := @And.left _ _ (@And.right _ _ (@And.right _ _ (@And.right _ _ ge3)))
def c_impl_asmName := @And.left _ _ (@And.right _ _ (@And.right _ _ (@And.right _ _ (@And.right _ _ ge3))))
def c_impl_valText := @And.left _ _ (@And.right _ _ (@And.right _ _ (@And.right _ _ (@And.right _ _ (@And.right _ _ ge3)))))
def c_spec_ValText := @And.left _ _ (@And.right _ _ (@And.right _ _ (@And.right _ _ (@And.right _ _ (@And.right _ _ (@And.right _ _ ge3))))))
def c_spec_l04Heights := @And.left _ _ (@And.right _ _ (@And.right _ _ (@And.right _ _ (@And.right _ _ (@And.right _ _ (@And.right _ _ (@And.right _ _ ge3)))))))
def c_spec_l10Some := @And.left _ _ (@And.right _ _ (@And.right _ _ (@And.right _ _ (@And.right _ _ (@And.right _ _ (@And.right _ _ (@And.right _ _ (@And.right _ _ ge3))))))))
def c_laws_eqFunc := @And.left _ _ (@And.right _ _ (@And.right _ _ (@And.right _ _ (@And.right _ _ (@And.right _ _ (@And.right _ _ (@And.right _ _ (@And.right _ _ (@And.right _ _ ge3)))))))))
def c_laws_eqMovS := @And.left _ _ (@And.right _ _ (@And.right _ _ (@And.right _ _ (@And.right _ _ (@And.right _ _ (@And.right _ _ (@And.right _ _ (@And.right _ _ (@And.right _ _ (@And.right _ _ ge3))))))))))
def c_laws_eqValSS := (@And.right _ _ (@And.right _ _ (@And.right _ _ (@And.right _ _ (@And.right _ _ (@And.right _ _ (@And.right _ _ (@And.right _ _ (@And.right _ _ (@And.right _ _ (@And.right _ _ ge3)))))))))))
set_option linter.defProp false
def laws_szAsmInsS.l1 : Nat → (List GAsmIns) → Int → Int → Option ((Int) ⊕ (Int))
  | 0, _, _, _ => none
  | k + 1, a1, a2, a3 => cond ((decide (a3 < ((a1.length : Int))))) ((idx a1 a3).bind fun m1 => (laws_szAsmIns m1 a2).bind fun t2 => cond ((decide (t2 < 0))) (some (.inl ((-1)))) (laws_szAsmInsS.l1 k a1 t2 ((IntKind.i64.wrap (a3 + 1))))) (some (.inr (a2)))
def laws_szAsmInsS (k : Nat) (p0 : (List GAsmIns)) (p1 : Int) : Option (Int) :=
  cond ((decide (((IntKind.i64.wrap (p1 - ((p0.length : Int))))) < 0))) (some ((-1))) ((laws_szAsmInsS.l1 k p0 ((IntKind.i64.wrap (p1 - ((p0.length : Int))))) 0).bind fun o1 => Sum.elim (fun o1l => some o1l) (fun o1r => some o1r) o1)
def laws_szFuncS.l1 : Nat → (List GFunc) → Int → Int → Option ((Int) ⊕ (Int))
  | 0, _, _, _ => none
  | k + 1, a1, a2, a3 => cond ((decide (a3 < ((a1.length : Int))))) ((idx a1 a3).bind fun m1 => (laws_szFunc m1 a2).bind fun t2 => cond ((decide (t2 < 0))) (some (.inl ((-1)))) (laws_szFuncS.l1 k a1 t2 ((IntKind.i64.wrap (a3 + 1))))) (some (.inr (a2)))
def laws_szFuncS (k : Nat) (p0 : (List GFunc)) (p1 : Int) : Option (Int) :=
  cond ((decide (((IntKind.i64.wrap (p1 - ((p0.length : Int))))) < 0))) (some ((-1))) ((laws_szFuncS.l1 k p0 ((IntKind.i64.wrap (p1 - ((p0.length : Int))))) 0).bind fun o1 => Sum.elim (fun o1l => some o1l) (fun o1r => some o1r) o1)
def laws_toFunc (k : Nat) (p0 : GFunc) : Option (GFunc) :=
  (laws_toInsS k p0.code).bind fun t1 => some ((⟨p0.args, p0.locals, t1⟩ : GFunc))
def laws_toMovS.l1 : Nat → (List GMov) → (List GMov) → Int → Option ((List GMov))
  | 0, _, _, _ => none
  | k + 1, a1, a2, a3 => cond ((decide (a3 < ((a2.length : Int))))) ((idx a2 a3).bind fun m1 => (laws_toMov m1).bind fun t2 => (idx a1 a3).bind fun m3 => laws_toMovS.l1 k ((a1.set a3.toNat t2)) a2 ((IntKind.i64.wrap (a3 + 1)))) (some (a1))
def laws_toMovS (k : Nat) (p0 : (List GMov)) : Option ((List GMov)) :=
  gd (0 ≤ (p0.length : Int) ∧ ((p0.length : Int)) * 24 ≤ 35184372088832 ∧ (p0.length : Int) ≤ 35184372088832) ((laws_toMovS.l1 k ((List.replicate p0.length (⟨0, ⟨0, 0⟩⟩))) p0 0).bind fun o1 => some o1)
def laws_toValSS.l1 : Nat → (List (List GI2)) → (List (List GI2)) → Int → Option ((List (List GI2)))
  | 0, _, _, _ => none
  | k + 1, a1, a2, a3 => cond ((decide (a3 < ((a2.length : Int))))) ((idx a2 a3).bind fun m1 => (laws_toValS k m1).bind fun t2 => (idx a1 a3).bind fun m3 => laws_toValSS.l1 k ((a1.set a3.toNat t2)) a2 ((IntKind.i64.wrap (a3 + 1)))) (some (a1))
def laws_toValSS (k : Nat) (p0 : (List (List GI2))) : Option ((List (List GI2))) :=
  gd (0 ≤ (p0.length : Int) ∧ ((p0.length : Int)) * 24 ≤ 35184372088832 ∧ (p0.length : Int) ≤ 35184372088832) ((laws_toValSS.l1 k ((List.replicate p0.length [])) p0 0).bind fun o1 => some o1)
theorem ge4 : (∀ {k : Nat} {p0 : (List GAsmIns)} {p1 : Int} {r : Int}, laws_szAsmInsS k p0 p1 = some r → Con Tryz.prog 13 [.d (.row .bor 5 (Rw (GAsmIns.cells .bor) p0)), V.int p1] [] (V.int r) []) ∧
  (∀ {k : Nat} {p0 : (List GFunc)} {p1 : Int} {r : Int}, laws_szFuncS k p0 p1 = some r → Con Tryz.prog 12 [.d (.row .bor 3 (Rw (GFunc.cells .bor) p0)), V.int p1] [] (V.int r) []) ∧
  (∀ {k : Nat} {p0 : GFunc} {r : GFunc}, laws_toFunc k p0 = some r → Con Tryz.prog 40 [.agg [V.int p0.args, V.int p0.locals, .d (.row .bor 2 (Rw GI2.cells p0.code))]] [] (.agg [V.int r.args, V.int r.locals, .d (.row .own 2 (Rw GI2.cells r.code))]) []) ∧
  (∀ {k : Nat} {p0 : (List GMov)} {r : (List GMov)}, laws_toMovS k p0 = some r → Con Tryz.prog 62 [.d (.row .bor 3 (Rw GMov.cells p0))] [] (.d (.row .own 3 (Rw GMov.cells r))) []) ∧
  (∀ {k : Nat} {p0 : (List (List GI2))} {r : (List (List GI2))}, laws_toValSS k p0 = some r → Con Tryz.prog 23 [.d (.row .bor 1 (Rw (cL .bor 2 GI2.cells) p0))] [] (.d (.row .own 1 (Rw (cL .own 2 GI2.cells) r))) []) := by
  refine ⟨?_, ?_, ?_, ?_, ?_⟩
  all_goals intros
  all_goals rename_i h
  all_goals first
    | (with_reducible refine isf 13 ?_
       refine csw Tryz.func13 Tryz.call13 (by simp [Tryz.ntmps13]) (h := ?_)
       refine mkf 13 fun hF => ?_
       rw [Tryz.ntmps13, Tryz.results13]
       unfold laws_szAsmInsS at h)
    | (with_reducible refine isf 12 ?_
       refine csw Tryz.func12 Tryz.call12 (by simp [Tryz.ntmps12]) (h := ?_)
       refine mkf 12 fun hF => ?_
       rw [Tryz.ntmps12, Tryz.results12]
       unfold laws_szFuncS at h)
    | (with_reducible refine isf 40 ?_
       refine csw Tryz.func40 Tryz.call40 (by simp [Tryz.ntmps40]) (h := ?_)
       refine mkf 40 fun hF => ?_
       rw [Tryz.ntmps40, Tryz.results40]
       unfold laws_toFunc at h)
    | (with_reducible refine isf 62 ?_
       refine csw Tryz.func62 Tryz.call62 (by simp [Tryz.ntmps62]) (h := ?_)
       refine mkf 62 fun hF => ?_
       rw [Tryz.ntmps62, Tryz.results62]
       unfold laws_toMovS at h)
    | (with_reducible refine isf 23 ?_
       refine csw Tryz.func23 Tryz.call23 (by simp [Tryz.ntmps23]) (h := ?_)
       refine mkf 23 fun hF => ?_
       rw [Tryz.ntmps23, Tryz.results23]
       unfold laws_toValSS at h)
  all_goals (replace h := Yes.mk h; simp only [entryS, entryO, Nat.reduceAdd, List.length_nil, List.length_cons])
  repeat' (first
 | (with_reducible (first | refine sw_reg ?_ | refine sw_ret ?_ | refine sw_skip ?_ | refine sw_block ?_ | refine sw_exit ?_ | refine seqQ_normal ?_ | refine blockQ_normal ?_ | refine blockQ_ret ?_ | refine blockQ_this ?_ | refine blockQ_other (by decide) ?_ | refine regW_nil ?_ | refine sw_draw mixed ?_ | refine retQ_ret ?_ | refine retQ_normal ?_))
 | (with_reducible refine regD_nil ?_
    refine ⟨by kernel_rfl, ?_⟩)
 | (revert h; (first | ((with_reducible refine idx_elim ?_); intro m hm1 hm2 hm3 h; (try (simp only [Int.reduceToNat] at hm3)); (try (revert hm3; (with_reducible apply same_elim); (focus (with_reducible assumption)); rintro rfl)); (try (simp only [List.length_set, List.length_cons, List.length_nil, List.length_replicate, Nat.reduceAdd, Int.cast_ofNat_Int, Nat.zero_add, List.length_append] at hm2))) | (with_reducible refine sidx_elim ?_; intro m hm1 hm3 h) | (with_reducible refine gd_elim ?_; intro hg h; try (have hg2 := hg.2; have hg := hg.1; (try (simp only [Nat.reduceLeDiff] at hg2)); (try (revert hg2; (with_reducible refine toNat_elim hg ?_); intro hg2 hg4)); try (have hg3 := hg2.2; have hg2 := hg2.1; (try (simp only [Nat.reduceLeDiff] at hg3))))) | (with_reducible refine condt_elim ?_ ?_; (focus (with_reducible assumption)); intro h) | (with_reducible refine condf_elim ?_ ?_; (focus (with_reducible assumption)); intro h)))
 | ((with_reducible first | refine pnR ?_ | refine pnE ?_ | refine pmR ?_ | refine pmE ?_)
    obtain rfl := h.get
    have h := hK
    clear hK
    (try (simp only [Sum.elim_inl, Sum.elim_inr] at h)))
 | ((with_reducible refine fi 13 ?_ ?_); (focus (with_reducible assumption))
    first
    | (with_reducible refine here_loop (c := (.seq (.seq (.region 5 _ _) _) _)) ?_
       revert h
       with_reducible refine bind_elimY ?_
       intro o1 h hK
       refine lpA (β := (List GAsmIns) × Int × Int) 10000000 (fun x => [(.s 0, some (.v (.d (.row .bor 5 (Rw (GAsmIns.cells .bor) x.2.1))))), (.s 1, some (.v (V.int x.2.2.1))), (.s 5, some (.v (V.int x.2.2.2)))]) (fun x => Yes (laws_szAsmInsS.l1 x.1 x.2.1 x.2.2.1 x.2.2.2) o1) (_, _, _, _) h ?_
       rintro ⟨_ | k, a1, a2, a3⟩ h
       · simp only [laws_szAsmInsS.l1] at h; exact h.none
       simp only [laws_szAsmInsS.l1] at h
   ))
 | ((with_reducible refine fi 12 ?_ ?_); (focus (with_reducible assumption))
    first
    | (with_reducible refine here_loop (c := (.seq (.seq (.region 5 _ _) _) _)) ?_
       revert h
       with_reducible refine bind_elimY ?_
       intro o1 h hK
       refine lpA (β := (List GFunc) × Int × Int) 10000000 (fun x => [(.s 0, some (.v (.d (.row .bor 3 (Rw (GFunc.cells .bor) x.2.1))))), (.s 1, some (.v (V.int x.2.2.1))), (.s 5, some (.v (V.int x.2.2.2)))]) (fun x => Yes (laws_szFuncS.l1 x.1 x.2.1 x.2.2.1 x.2.2.2) o1) (_, _, _, _) h ?_
       rintro ⟨_ | k, a1, a2, a3⟩ h
       · simp only [laws_szFuncS.l1] at h; exact h.none
       simp only [laws_szFuncS.l1] at h
   ))
 | ((with_reducible refine fi 62 ?_ ?_); (focus (with_reducible assumption))
    first
    | (with_reducible refine here_loop (c := (.seq (.seq (.region 3 _ _) _) _)) ?_
       revert h
       with_reducible refine bind_elimY ?_
       intro o1 h hK
       refine lpA (β := (List GMov) × (List GMov) × Int) 10000000 (fun x => [(.s 0, some (.v (.d (.row .bor 3 (Rw GMov.cells x.2.2.1))))), (.s 3, some (.v (.sl 256 3 0 x.2.1.length))), (.s 4, some (.v (V.int x.2.2.2))), (.r 256, some (.o 3 (dd (Rw GMov.cells x.2.1))))]) (fun x => Yes (laws_toMovS.l1 x.1 x.2.1 x.2.2.1 x.2.2.2) o1) (_, _, _, _) h ?_
       rintro ⟨_ | k, a1, a2, a3⟩ h
       · simp only [laws_toMovS.l1] at h; exact h.none
       simp only [laws_toMovS.l1] at h
   ))
 | ((with_reducible refine fi 23 ?_ ?_); (focus (with_reducible assumption))
    first
    | (with_reducible refine here_loop (c := (.seq (.seq (.region 3 _ _) _) _)) ?_
       revert h
       with_reducible refine bind_elimY ?_
       intro o1 h hK
       refine sw_gh ?_
       (try (apply gh_zero (f := (cL .own 2 GI2.cells)) 256 []; (focus (simp only [lkd, lkb, reduceCtorEq, Nat.reduceEqDiff]; try rfl)); (focus (exact .cons .nil (.nil)))))
       (try (apply gh_resRow 256; (focus (simp only [lkd, lkb, reduceCtorEq, Nat.reduceEqDiff]; try rfl)); (focus (first | (simp only [Rw_length, List.length_set]; omega) | (simp [Rw_length]; omega))); simp only [rxb, Nat.reduceAdd, Nat.reduceLeDiff, rxd, lkd, lkb, reduceCtorEq, Nat.reduceEqDiff, *, mmb, GI2_Dset, GFunc_Dset, GMov_Dset, GAsmIns_Dset, LGI2_Dset]))
       refine gh_sw ?_
       refine lpA (β := (List (List GI2)) × (List (List GI2)) × Int) 10000000 (fun x => [(.s 0, some (.v (.d (.row .bor 1 (Rw (cL .bor 2 GI2.cells) x.2.2.1))))), (.s 3, some (.v (.sl 256 1 0 x.2.1.length))), (.s 4, some (.v (V.int x.2.2.2))), (.r 256, some (.o 1 (dd (Rw (cL .own 2 GI2.cells) x.2.1))))]) (fun x => Yes (laws_toValSS.l1 x.1 x.2.1 x.2.2.1 x.2.2.2) o1) (_, _, _, _) h ?_
       rintro ⟨_ | k, a1, a2, a3⟩ h
       · simp only [laws_toValSS.l1] at h; exact h.none
       simp only [laws_toValSS.l1] at h
   )
    | (with_reducible refine here_next (N0 := 10000000) ?_
       (try (apply gh_zero (f := (cL .own 2 GI2.cells)) 256 []; (focus (simp only [lkd, lkb, reduceCtorEq, Nat.reduceEqDiff]; try rfl)); (focus (exact .cons .nil (.nil)))))
       (try (apply gh_resRow 256; (focus (simp only [lkd, lkb, reduceCtorEq, Nat.reduceEqDiff]; try rfl)); (focus (first | (simp only [Rw_length, List.length_set]; omega) | (simp [Rw_length]; omega))); simp only [rxb, Nat.reduceAdd, Nat.reduceLeDiff, rxd, lkd, lkb, reduceCtorEq, Nat.reduceEqDiff, *, mmb, GI2_Dset, GFunc_Dset, GMov_Dset, GAsmIns_Dset, LGI2_Dset]))
       refine nxA (_, _, _, _) h))
 | (with_reducible refine here_next ?_
    first | refine nxA (_, _, _, _) h)
 | with_reducible refine sw_seq ?_
 | with_reducible refine seqQ_ret ?_
 | with_reducible refine seqQ_exit ?_
 | ((with_reducible refine fi 62 ?_ ?_); (focus (with_reducible assumption))
    first
    | (with_reducible refine gh_nilRow 2 .own 3 ?_ ?_
       · simp only [lkd, lkb, reduceCtorEq, Nat.reduceEqDiff]; done
       skip))
 | ((with_reducible refine fi 23 ?_ ?_); (focus (with_reducible assumption))
    first
    | (with_reducible refine gh_nilRow 2 .own 1 ?_ ?_
       · simp only [lkd, lkb, reduceCtorEq, Nat.reduceEqDiff]; done
       skip))
 | ((with_reducible refine wp_ite ?_ ?_)
    all_goals (intro hc; (try (simp only [Bool.not_eq_true, Bool.not_eq_false] at hc)); simp only [hc]))
 | (with_reducible refine rskip (hs := ?_) (h2 := ?_)
    · simp only [lkd, lkb, reduceCtorEq, Nat.reduceEqDiff]; done)
 | (with_reducible refine ryes (hs := ?_) (h := ?_)
    · simp only [lkd, lkb, reduceCtorEq, Nat.reduceEqDiff]; done)
 | (with_reducible refine rno (hs := ?_) (h := ?_)
    · simp only [lkd, lkb, reduceCtorEq, Nat.reduceEqDiff, Bool.not_true, Bool.not_false]; done)
 | (with_reducible apply regW_guardN
    · simp only [dstOk, Nat.reduceLT]
    · rfl
    · simp only [lkd, lkb, reduceCtorEq, Nat.reduceEqDiff]; rfl
    all_goals (intro hc; (try (simp only [Bool.not_true, Bool.not_false] at hc))))
 | (with_reducible apply sw_cond
    · simp only [lkd, lkb, reduceCtorEq, Nat.reduceEqDiff]; rfl
    all_goals (intro hc; try (cases hc; done)))
 | ((first
     | ((with_reducible refine gh_ret ?_)
        revert h
        with_reducible refine some_elim ?_
        rintro rfl)
     | (with_reducible refine here_call ?_
        revert h
        with_reducible refine bind_elim ?_
        intro t ht h
        (first
          | ((first
              | ((with_reducible refine here_call (f := 33) ?_); refine call_dataE (c_laws_szAsmIns ht) ?_ rfl ?_)
              | ((with_reducible refine here_call (f := 32) ?_); refine call_dataE (c_laws_szFunc ht) ?_ rfl ?_)
              | ((with_reducible refine here_call (f := 61) ?_); refine call_dataE (c_laws_toInsS ht) ?_ rfl ?_)
              | ((with_reducible refine here_call (f := 81) ?_); refine call_dataE (c_laws_toMov ht) ?_ rfl ?_)
              | ((with_reducible refine here_call (f := 42) ?_); refine call_dataE (c_laws_toValS ht) ?_ rfl ?_))
             · first | rfl | (simp; done))))
     | (with_reducible (first | refine ropD (h := ?_) | refine ropW (h := ?_))
        intro k hk)
     | skip)
    simp only [bn, lkb, evb, evd, Value.oneCell', setSeg, reduceCtorEq, Nat.reduceAdd, Nat.reduceMul, Nat.reduceSub, Nat.reduceLT, Nat.reduceLeDiff, Nat.reduceEqDiff, Int.reduceNeg, Int.reduceToNat, ty2, ty3, ty22, ty25, ty26, ty37, ty50, ty51, ty56, ty58, ty67, ty69, ty71, ty72, ty74, ty77, ty79, ty105, ty113, ty132, ty135, GAsmIns.cells, GFunc.cells, GI2.cells, GMov.cells, cI, cB, cS, cL, GI2_e, GFunc_e, GMov_e, GAsmIns_e, LGI2_e, nilEqP, ne_eq, not_false_eq_true, not_true_eq_false, *]
    try (refine hk.use _ _ _ _ ?_; clear hk k))
 | fail)
  all_goals (try rfl)
  all_goals (try (simp; done))
  all_goals (try (simp_all; done))
def c_laws_szAsmInsS := @And.left _ _ ge4
def c_laws_szFuncS := @And.left _ _ (@And.right _ _ ge4)
def c_laws_toFunc := @And.left _ _ (@And.right _ _ (@And.right _ _ ge4))
def c_laws_toMovS := @And.left _ _ (@And.right _ _ (@And.right _ _ (@And.right _ _ ge4)))
def c_laws_toValSS := (@And.right _ _ (@And.right _ _ (@And.right _ _ (@And.right _ _ ge4))))
end Go.Proofs.YtfdgjiifeijjfaaGreatDoor