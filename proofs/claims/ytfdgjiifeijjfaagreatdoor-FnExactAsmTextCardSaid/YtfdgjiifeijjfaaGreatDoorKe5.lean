/- WHAT IS PROVED: an abstract walker over the model, what some functions of the program answer, and laws of these answers. Conditions: none. -/
import Derived.Test.YtfdgjiifeijjfaaGreatDoorKe4
namespace Go.Proofs.YtfdgjiifeijjfaaGreatDoor
open Go.Proofs Go.Proofs.YtfdgjiifeijjfaaGreatDoor.L
set_option maxHeartbeats 8000000
set_option linter.unusedSimpArgs false
set_option linter.unusedVariables false
set_option maxRecDepth 100000
set_option linter.defProp false
def strconv_FormatInt (p0 p1 : Int) : Option ByteArray :=
  gd (p1 = 10 ∧ -9223372036854775808 ≤ p0 ∧ p0 ≤ 9223372036854775807) (some ⟨(Lib.itoa p0).toArray⟩)
theorem c_strconv_FormatInt {p0 p1 : Int} {r : ByteArray} (h : strconv_FormatInt p0 p1 = some r) : Con Tryz.prog 45 [V.int p0, V.int p1] [] (.d (.p (.string r))) [] := by
  obtain ⟨⟨h1, h2, h3⟩, h4⟩ := gd_some h
  simp only [Option.some.injEq] at h4
  subst h4 h1
  exact con_tab (g := 0) (by kernel_rfl) (List.mem_singleton.2 rfl) Tryz.call45 fun w hw => Tryz.strconv_FormatInt_10 p0 h2 h3 w hw
set_option linter.defProp false
def impl_bareNop : Option (GAsmIns) :=
  some ((⟨[], 0, (-1), [], 0⟩ : GAsmIns))
def impl_hasFunc (p0 : GProgram) (p1 : Int) : Option (Bool) :=
  cond ((decide (p1 ≥ 0))) (some ((decide (p1 < ((p0.funcs.length : Int)))))) (some false)
def impl_in (p0 : Int) (p1 : Int) (p2 : Int) : Option (Bool) :=
  cond ((decide (p0 ≥ p1))) (some ((decide (p0 ≤ p2)))) (some false)
def impl_loc (p0 : Int) : Option (GI2) :=
  some ((⟨1, p0⟩ : GI2))
def impl_next (p0 : GI2) (p1 : Int) : Option ((List Int)) :=
  cond ((p0.a == 33)) (some []) (cond ((p0.a == 30)) (some ([p0.b])) (cond ((p0.a == 31)) (some ([(IntKind.i64.wrap (p1 + 1)), p0.b])) (some ([(IntKind.i64.wrap (p1 + 1))]))))
def impl_opNames : Option ((List ByteArray)) :=
  some ([(⟨#[]⟩ : ByteArray), (⟨#[112, 117, 115, 104]⟩ : ByteArray), (⟨#[108, 111, 97, 100]⟩ : ByteArray), (⟨#[115, 116, 111, 114, 101]⟩ : ByteArray), (⟨#[100, 117, 112]⟩ : ByteArray), (⟨#[112, 111, 112]⟩ : ByteArray), (⟨#[]⟩ : ByteArray), (⟨#[]⟩ : ByteArray), (⟨#[]⟩ : ByteArray), (⟨#[]⟩ : ByteArray), (⟨#[97, 100, 100]⟩ : ByteArray), (⟨#[115, 117, 98]⟩ : ByteArray), (⟨#[109, 117, 108]⟩ : ByteArray), (⟨#[100, 105, 118]⟩ : ByteArray), (⟨#[114, 101, 109]⟩ : ByteArray), (⟨#[97, 110, 100]⟩ : ByteArray), (⟨#[111, 114]⟩ : ByteArray), (⟨#[120, 111, 114]⟩ : ByteArray), (⟨#[115, 104, 108]⟩ : ByteArray), (⟨#[115, 104, 114]⟩ : ByteArray), (⟨#[117, 115, 104, 114]⟩ : ByteArray), (⟨#[108, 101, 115, 115]⟩ : ByteArray), (⟨#[97, 116, 109, 111, 115, 116]⟩ : ByteArray), (⟨#[115, 97, 109, 101]⟩ : ByteArray), (⟨#[110, 101, 103]⟩ : ByteArray), (⟨#[110, 111, 116]⟩ : ByteArray), (⟨#[98, 121, 116, 101]⟩ : ByteArray), (⟨#[115, 104, 111, 114, 116]⟩ : ByteArray), (⟨#[105, 110, 116]⟩ : ByteArray), (⟨#[119, 111, 114, 100]⟩ : ByteArray), (⟨#[106, 117, 109, 112]⟩ : ByteArray), (⟨#[106, 122]⟩ : ByteArray), (⟨#[99, 97, 108, 108]⟩ : ByteArray), (⟨#[114, 101, 116]⟩ : ByteArray), (⟨#[110, 101, 119]⟩ : ByteArray), (⟨#[103, 101, 116]⟩ : ByteArray), (⟨#[115, 101, 116]⟩ : ByteArray), (⟨#[108, 101, 110]⟩ : ByteArray), (⟨#[111, 117, 116]⟩ : ByteArray)])
def impl_prog_code (p0 : Gprog) (p1 : Int) : Option ((List GI2)) :=
  (idx p0.program.funcs p1).bind fun m1 => some m1.code
def impl_prog_slots (p0 : Gprog) (p1 : Int) (p2 : Int) : Option (Int) :=
  (idx p0.program.funcs p1).bind fun m1 => (idx p0.h p1).bind fun m2 => (idx m2 p2).bind fun m3 => some ((IntKind.i64.wrap (m1.locals + m3)))
def slices_Equal_impl_Mov_impl_Mov.l1 : Nat → (List GMov) → (List GMov) → Int → Int → Option ((Bool) ⊕ (Unit))
  | 0, _, _, _, _ => none
  | k + 1, a1, a2, a3, a4 => cond ((decide (a4 < a3))) ((idx a1 a4).bind fun m1 => (idx a2 a4).bind fun m2 => cond ((!((m1.to == m2.to) && ((m1.from0.a == m2.from0.a) && (m1.from0.b == m2.from0.b))))) (some (.inl (false))) (slices_Equal_impl_Mov_impl_Mov.l1 k a1 a2 a3 ((IntKind.i64.wrap (a4 + 1))))) (some (.inr ()))
def slices_Equal_impl_Mov_impl_Mov (k : Nat) (p0 : (List GMov)) (p1 : (List GMov)) : Option (Bool) :=
  cond ((((p0.length : Int)) != ((p1.length : Int)))) (some false) ((slices_Equal_impl_Mov_impl_Mov.l1 k p0 p1 ((p0.length : Int)) 0).bind fun o1 => Sum.elim (fun o1l => some o1l) (fun o1r => some true) o1)
def slices_Equal_impl_Val_impl_Val.l1 : Nat → (List GI2) → (List GI2) → Int → Int → Option ((Bool) ⊕ (Unit))
  | 0, _, _, _, _ => none
  | k + 1, a1, a2, a3, a4 => cond ((decide (a4 < a3))) ((idx a1 a4).bind fun m1 => (idx a2 a4).bind fun m2 => cond ((!((m1.a == m2.a) && (m1.b == m2.b)))) (some (.inl (false))) (slices_Equal_impl_Val_impl_Val.l1 k a1 a2 a3 ((IntKind.i64.wrap (a4 + 1))))) (some (.inr ()))
def slices_Equal_impl_Val_impl_Val (k : Nat) (p0 : (List GI2)) (p1 : (List GI2)) : Option (Bool) :=
  cond ((((p0.length : Int)) != ((p1.length : Int)))) (some false) ((slices_Equal_impl_Val_impl_Val.l1 k p0 p1 ((p0.length : Int)) 0).bind fun o1 => Sum.elim (fun o1l => some o1l) (fun o1r => some true) o1)
def spec_OpName.a1 (k : Nat) (a1 : (List ByteArray)) (a2 : (List ByteArray)) (a3 : Int) : Option ((ByteArray) ⊕ ((List ByteArray) × Int)) :=
  cond ((decide (a3 ≥ 1))) (cond ((decide (a3 ≤ 5))) ((idx a1 ((IntKind.i64.wrap (a3 - 1)))).bind fun m1 => some (.inl (m1))) (some (.inr (a2, a3)))) (some (.inr (a2, a3)))
def spec_OpName (k : Nat) (p0 : Int) : Option (ByteArray) :=
  (spec_OpName.a1 k ([(⟨#[112, 117, 115, 104]⟩ : ByteArray), (⟨#[108, 111, 97, 100]⟩ : ByteArray), (⟨#[115, 116, 111, 114, 101]⟩ : ByteArray), (⟨#[100, 117, 112]⟩ : ByteArray), (⟨#[112, 111, 112]⟩ : ByteArray)]) ([(⟨#[97, 100, 100]⟩ : ByteArray), (⟨#[115, 117, 98]⟩ : ByteArray), (⟨#[109, 117, 108]⟩ : ByteArray), (⟨#[100, 105, 118]⟩ : ByteArray), (⟨#[114, 101, 109]⟩ : ByteArray), (⟨#[97, 110, 100]⟩ : ByteArray), (⟨#[111, 114]⟩ : ByteArray), (⟨#[120, 111, 114]⟩ : ByteArray), (⟨#[115, 104, 108]⟩ : ByteArray), (⟨#[115, 104, 114]⟩ : ByteArray), (⟨#[117, 115, 104, 114]⟩ : ByteArray), (⟨#[108, 101, 115, 115]⟩ : ByteArray), (⟨#[97, 116, 109, 111, 115, 116]⟩ : ByteArray), (⟨#[115, 97, 109, 101]⟩ : ByteArray), (⟨#[110, 101, 103]⟩ : ByteArray), (⟨#[110, 111, 116]⟩ : ByteArray), (⟨#[98, 121, 116, 101]⟩ : ByteArray), (⟨#[115, 104, 111, 114, 116]⟩ : ByteArray), (⟨#[105, 110, 116]⟩ : ByteArray), (⟨#[119, 111, 114, 100]⟩ : ByteArray), (⟨#[106, 117, 109, 112]⟩ : ByteArray), (⟨#[106, 122]⟩ : ByteArray), (⟨#[99, 97, 108, 108]⟩ : ByteArray), (⟨#[114, 101, 116]⟩ : ByteArray), (⟨#[110, 101, 119]⟩ : ByteArray), (⟨#[103, 101, 116]⟩ : ByteArray), (⟨#[115, 101, 116]⟩ : ByteArray), (⟨#[108, 101, 110]⟩ : ByteArray), (⟨#[111, 117, 116]⟩ : ByteArray)]) p0).bind fun o1 => Sum.elim (fun o1l => some o1l) (fun o1r => cond ((decide (o1r.2 ≥ 10))) (cond ((decide (o1r.2 ≤ 38))) ((idx o1r.1 ((IntKind.i64.wrap (o1r.2 - 10)))).bind fun m2 => some m2) (some ((⟨#[]⟩ : ByteArray)))) (some ((⟨#[]⟩ : ByteArray)))) o1
def spec_l01Dec.a2 (k : Nat) (a1 : Int) (a2 : Bool) (a3 : ByteArray) (a4 : Int) : Option (Int × Bool × ByteArray × Int) :=
  cond ((decide (a4 < 0))) (some (a1, a2, a3, (IntKind.i64.wrap (0 - a4)))) (some (a1, a2, a3, a4))
def spec_l01Dec.l1 : Nat → Int → Bool → ByteArray → Option (Bool × ByteArray)
  | 0, _, _, _ => none
  | k + 1, a1, a2, a3 => cond ((a1 != 0)) ((spec_l01Dec.a2 k a1 a2 a3 ((a1.tmod 10))).bind fun o2 => gd (((strL ([(IntKind.u8.wrap ((IntKind.i64.wrap (48 + o2.2.2.2))))]))).size + o2.2.2.1.size ≤ 9223372036854775807) (spec_l01Dec.l1 k ((iquo .i64 o2.1 10)) o2.2.1 ((((strL ([(IntKind.u8.wrap ((IntKind.i64.wrap (48 + o2.2.2.2))))]))) ++ o2.2.2.1)))) (some (a2, a3))
def spec_l01Dec (k : Nat) (p0 : Int) : Option (ByteArray) :=
  cond ((p0 == 0)) (some ((⟨#[48]⟩ : ByteArray))) ((spec_l01Dec.l1 k p0 ((decide (p0 < 0))) ((⟨#[]⟩ : ByteArray))).bind fun o1 => cond o1.1 (gd (((⟨#[45]⟩ : ByteArray)).size + o1.2.size ≤ 9223372036854775807) (some ((((⟨#[45]⟩ : ByteArray)) ++ o1.2)))) (some o1.2))
def spec_l03Binary (p0 : Int) : Option (Bool) :=
  cond ((decide (p0 ≥ 10))) (some ((decide (p0 ≤ 23)))) (some false)
def spec_l03Unary (p0 : Int) : Option (Bool) :=
  cond ((decide (p0 ≥ 24))) (some ((decide (p0 ≤ 29)))) (some false)
def spec_l04Least.l1 : Nat → (List Bool) → Int → Option ((Int) ⊕ (Unit))
  | 0, _, _ => none
  | k + 1, a1, a2 => cond ((decide (a2 < ((a1.length : Int))))) ((idx a1 a2).bind fun m1 => cond m1 (some (.inl (a2))) (spec_l04Least.l1 k a1 ((IntKind.i64.wrap (a2 + 1))))) (some (.inr ()))
def spec_l04Least (k : Nat) (p0 : (List Bool)) : Option (Int) :=
  (spec_l04Least.l1 k p0 0).bind fun o1 => Sum.elim (fun o1l => some o1l) (fun o1r => some ((-1))) o1
def spec_l10Loc (p0 : Int) : Option (Bool) :=
  cond ((decide (p0 ≥ 0))) (some ((decide (p0 < 22)))) (some false)
def laws_eqIns (p0 : GI2) (p1 : GI2) : Option (Bool) :=
  cond ((p0.a != p1.a)) (some false) (cond ((p0.b != p1.b)) (some false) (some true))
def laws_eqVal (p0 : GI2) (p1 : GI2) : Option (Bool) :=
  cond ((p0.a != p1.a)) (some false) (cond ((p0.b != p1.b)) (some false) (some true))
def laws_szInsS (p0 : (List GI2)) (p1 : Int) : Option (Int) :=
  cond ((decide (((IntKind.i64.wrap (p1 - ((p0.length : Int))))) < 0))) (some ((-1))) (some ((IntKind.i64.wrap (p1 - ((p0.length : Int))))))
def laws_szMovS (p0 : (List GMov)) (p1 : Int) : Option (Int) :=
  cond ((decide (((IntKind.i64.wrap (p1 - ((p0.length : Int))))) < 0))) (some ((-1))) (some ((IntKind.i64.wrap (p1 - ((p0.length : Int))))))
def laws_szValS (p0 : (List GI2)) (p1 : Int) : Option (Int) :=
  cond ((decide (((IntKind.i64.wrap (p1 - ((p0.length : Int))))) < 0))) (some ((-1))) (some ((IntKind.i64.wrap (p1 - ((p0.length : Int))))))
def laws_toIns (p0 : GI2) : Option (GI2) :=
  some p0
def laws_toVal (p0 : GI2) : Option (GI2) :=
  some p0
theorem fl58_slices_Equal_impl_Mov_impl_Mov : flatK Tryz.prog 58 = some [0, 0, 0] := by kernel_rfl
theorem fl56_slices_Equal_impl_Val_impl_Val : flatK Tryz.prog 56 = some [0, 0] := by kernel_rfl
theorem ge1 : (∀ {r : GAsmIns}, impl_bareNop = some r → Con Tryz.prog 69 [] [] (.agg [.d (.row .own 3 (Rw GMov.cells r.pre)), V.int r.op, V.int r.to, .d (.row .own 2 (Rw GI2.cells r.l)), V.int r.t]) []) ∧
  (∀ {p0 : GProgram} {p1 : Int} {r : Bool}, impl_hasFunc p0 p1 = some r → Con Tryz.prog 65 [.agg [.d (.row .bor 3 (Rw (GFunc.cells .bor) p0.funcs))], V.int p1] [] (V.bool r) []) ∧
  (∀ {p0 : Int} {p1 : Int} {p2 : Int} {r : Bool}, impl_in p0 p1 p2 = some r → Con Tryz.prog 74 [V.int p0, V.int p1, V.int p2] [] (V.bool r) []) ∧
  (∀ {p0 : Int} {r : GI2}, impl_loc p0 = some r → Con Tryz.prog 46 [V.int p0] [] (.agg [V.int r.a, V.int r.b]) []) ∧
  (∀ {p0 : GI2} {p1 : Int} {r : (List Int)}, impl_next p0 p1 = some r → Con Tryz.prog 100 [.agg [V.int p0.a, V.int p0.b], V.int p1] [] (.d (.row .own 1 (Rw (cI .i64) r))) []) ∧
  (∀ {r : (List ByteArray)}, impl_opNames = some r → Con Tryz.prog 75 [] [] (.d (.row .own 1 (Rw cS r))) []) ∧
  (∀ {p0 : Gprog} {p1 : Int} {r : (List GI2)}, impl_prog_code p0 p1 = some r → Con Tryz.prog 66 [.d (.ptr .bor [.row .bor 3 (Rw (GFunc.cells .bor) p0.program.funcs), .row .bor 1 (Rw (cL .bor 1 (cI .i64)) p0.h)]), V.int p1] [] (.d (.row .bor 2 (Rw GI2.cells r))) []) ∧
  (∀ {p0 : Gprog} {p1 : Int} {p2 : Int} {r : Int}, impl_prog_slots p0 p1 p2 = some r → Con Tryz.prog 70 [.d (.ptr .bor [.row .bor 3 (Rw (GFunc.cells .bor) p0.program.funcs), .row .bor 1 (Rw (cL .bor 1 (cI .i64)) p0.h)]), V.int p1, V.int p2] [] (V.int r) []) ∧
  (∀ {k : Nat} {p0 : (List GMov)} {p1 : (List GMov)} {r : Bool}, slices_Equal_impl_Mov_impl_Mov k p0 p1 = some r → Con Tryz.prog 84 [.d (.row .bor 3 (Rw GMov.cells p0)), .d (.row .bor 3 (Rw GMov.cells p1))] [] (V.bool r) []) ∧
  (∀ {k : Nat} {p0 : (List GI2)} {p1 : (List GI2)} {r : Bool}, slices_Equal_impl_Val_impl_Val k p0 p1 = some r → Con Tryz.prog 85 [.d (.row .bor 2 (Rw GI2.cells p0)), .d (.row .bor 2 (Rw GI2.cells p1))] [] (V.bool r) []) ∧
  (∀ {k : Nat} {p0 : Int} {r : ByteArray}, spec_OpName k p0 = some r → Con Tryz.prog 39 [V.int p0] [] (.d (.p (.string r))) []) ∧
  (∀ {k : Nat} {p0 : Int} {r : ByteArray}, spec_l01Dec k p0 = some r → Con Tryz.prog 16 [V.int p0] [] (.d (.p (.string r))) []) ∧
  (∀ {p0 : Int} {r : Bool}, spec_l03Binary p0 = some r → Con Tryz.prog 59 [V.int p0] [] (V.bool r) []) ∧
  (∀ {p0 : Int} {r : Bool}, spec_l03Unary p0 = some r → Con Tryz.prog 60 [V.int p0] [] (V.bool r) []) ∧
  (∀ {k : Nat} {p0 : (List Bool)} {r : Int}, spec_l04Least k p0 = some r → Con Tryz.prog 54 [.d (.row .bor 1 (Rw cB p0))] [] (V.int r) []) ∧
  (∀ {p0 : Int} {r : Bool}, spec_l10Loc p0 = some r → Con Tryz.prog 57 [V.int p0] [] (V.bool r) []) ∧
  (∀ {p0 : GI2} {p1 : GI2} {r : Bool}, laws_eqIns p0 p1 = some r → Con Tryz.prog 96 [.agg [V.int p0.a, V.int p0.b], .agg [V.int p1.a, V.int p1.b]] [] (V.bool r) []) ∧
  (∀ {p0 : GI2} {p1 : GI2} {r : Bool}, laws_eqVal p0 p1 = some r → Con Tryz.prog 78 [.agg [V.int p0.a, V.int p0.b], .agg [V.int p1.a, V.int p1.b]] [] (V.bool r) []) ∧
  (∀ {p0 : (List GI2)} {p1 : Int} {r : Int}, laws_szInsS p0 p1 = some r → Con Tryz.prog 51 [.d (.row .bor 2 (Rw GI2.cells p0)), V.int p1] [] (V.int r) []) ∧
  (∀ {p0 : (List GMov)} {p1 : Int} {r : Int}, laws_szMovS p0 p1 = some r → Con Tryz.prog 52 [.d (.row .bor 3 (Rw GMov.cells p0)), V.int p1] [] (V.int r) []) ∧
  (∀ {p0 : (List GI2)} {p1 : Int} {r : Int}, laws_szValS p0 p1 = some r → Con Tryz.prog 34 [.d (.row .bor 2 (Rw GI2.cells p0)), V.int p1] [] (V.int r) []) ∧
  (∀ {p0 : GI2} {r : GI2}, laws_toIns p0 = some r → Con Tryz.prog 80 [.agg [V.int p0.a, V.int p0.b]] [] (.agg [V.int r.a, V.int r.b]) []) ∧
  (∀ {p0 : GI2} {r : GI2}, laws_toVal p0 = some r → Con Tryz.prog 63 [.agg [V.int p0.a, V.int p0.b]] [] (.agg [V.int r.a, V.int r.b]) []) := by
  refine ⟨?_, ?_, ?_, ?_, ?_, ?_, ?_, ?_, ?_, ?_, ?_, ?_, ?_, ?_, ?_, ?_, ?_, ?_, ?_, ?_, ?_, ?_, ?_⟩
  all_goals intros
  all_goals rename_i h
  all_goals first
    | (with_reducible refine isf 69 ?_
       refine csw Tryz.func69 Tryz.call69 (by simp [Tryz.ntmps69]) (h := ?_)
       refine mkf 69 fun hF => ?_
       rw [Tryz.ntmps69, Tryz.results69]
       unfold impl_bareNop at h)
    | (with_reducible refine isf 65 ?_
       refine csw Tryz.func65 Tryz.call65 (by simp [Tryz.ntmps65]) (h := ?_)
       refine mkf 65 fun hF => ?_
       rw [Tryz.ntmps65, Tryz.results65]
       unfold impl_hasFunc at h)
    | (with_reducible refine isf 74 ?_
       refine csw Tryz.func74 Tryz.call74 (by simp [Tryz.ntmps74]) (h := ?_)
       refine mkf 74 fun hF => ?_
       rw [Tryz.ntmps74, Tryz.results74]
       unfold impl_in at h)
    | (with_reducible refine isf 46 ?_
       refine csw Tryz.func46 Tryz.call46 (by simp [Tryz.ntmps46]) (h := ?_)
       refine mkf 46 fun hF => ?_
       rw [Tryz.ntmps46, Tryz.results46]
       unfold impl_loc at h)
    | (with_reducible refine isf 100 ?_
       refine csw Tryz.func100 Tryz.call100 (by simp [Tryz.ntmps100]) (h := ?_)
       refine mkf 100 fun hF => ?_
       rw [Tryz.ntmps100, Tryz.results100]
       unfold impl_next at h)
    | (with_reducible refine isf 75 ?_
       refine csw Tryz.func75 Tryz.call75 (by simp [Tryz.ntmps75]) (h := ?_)
       refine mkf 75 fun hF => ?_
       rw [Tryz.ntmps75, Tryz.results75]
       unfold impl_opNames at h)
    | (with_reducible refine isf 66 ?_
       refine csw Tryz.func66 Tryz.call66 (by simp [Tryz.ntmps66]) (h := ?_)
       refine mkf 66 fun hF => ?_
       rw [Tryz.ntmps66, Tryz.results66]
       unfold impl_prog_code at h)
    | (with_reducible refine isf 70 ?_
       refine csw Tryz.func70 Tryz.call70 (by simp [Tryz.ntmps70]) (h := ?_)
       refine mkf 70 fun hF => ?_
       rw [Tryz.ntmps70, Tryz.results70]
       unfold impl_prog_slots at h)
    | (with_reducible refine isf 84 ?_
       refine csw Tryz.func84 Tryz.call84 (by simp [Tryz.ntmps84]) (h := ?_)
       refine mkf 84 fun hF => ?_
       rw [Tryz.ntmps84, Tryz.results84]
       unfold slices_Equal_impl_Mov_impl_Mov at h)
    | (with_reducible refine isf 85 ?_
       refine csw Tryz.func85 Tryz.call85 (by simp [Tryz.ntmps85]) (h := ?_)
       refine mkf 85 fun hF => ?_
       rw [Tryz.ntmps85, Tryz.results85]
       unfold slices_Equal_impl_Val_impl_Val at h)
    | (with_reducible refine isf 39 ?_
       refine csw Tryz.func39 Tryz.call39 (by simp [Tryz.ntmps39]) (h := ?_)
       refine mkf 39 fun hF => ?_
       rw [Tryz.ntmps39, Tryz.results39]
       unfold spec_OpName at h)
    | (with_reducible refine isf 16 ?_
       refine csw Tryz.func16 Tryz.call16 (by simp [Tryz.ntmps16]) (h := ?_)
       refine mkf 16 fun hF => ?_
       rw [Tryz.ntmps16, Tryz.results16]
       unfold spec_l01Dec at h)
    | (with_reducible refine isf 59 ?_
       refine csw Tryz.func59 Tryz.call59 (by simp [Tryz.ntmps59]) (h := ?_)
       refine mkf 59 fun hF => ?_
       rw [Tryz.ntmps59, Tryz.results59]
       unfold spec_l03Binary at h)
    | (with_reducible refine isf 60 ?_
       refine csw Tryz.func60 Tryz.call60 (by simp [Tryz.ntmps60]) (h := ?_)
       refine mkf 60 fun hF => ?_
       rw [Tryz.ntmps60, Tryz.results60]
       unfold spec_l03Unary at h)
    | (with_reducible refine isf 54 ?_
       refine csw Tryz.func54 Tryz.call54 (by simp [Tryz.ntmps54]) (h := ?_)
       refine mkf 54 fun hF => ?_
       rw [Tryz.ntmps54, Tryz.results54]
       unfold spec_l04Least at h)
    | (with_reducible refine isf 57 ?_
       refine csw Tryz.func57 Tryz.call57 (by simp [Tryz.ntmps57]) (h := ?_)
       refine mkf 57 fun hF => ?_
       rw [Tryz.ntmps57, Tryz.results57]
       unfold spec_l10Loc at h)
    | (with_reducible refine isf 96 ?_
       refine csw Tryz.func96 Tryz.call96 (by simp [Tryz.ntmps96]) (h := ?_)
       refine mkf 96 fun hF => ?_
       rw [Tryz.ntmps96, Tryz.results96]
       unfold laws_eqIns at h)
    | (with_reducible refine isf 78 ?_
       refine csw Tryz.func78 Tryz.call78 (by simp [Tryz.ntmps78]) (h := ?_)
       refine mkf 78 fun hF => ?_
       rw [Tryz.ntmps78, Tryz.results78]
       unfold laws_eqVal at h)
    | (with_reducible refine isf 51 ?_
       refine csw Tryz.func51 Tryz.call51 (by simp [Tryz.ntmps51]) (h := ?_)
       refine mkf 51 fun hF => ?_
       rw [Tryz.ntmps51, Tryz.results51]
       unfold laws_szInsS at h)
    | (with_reducible refine isf 52 ?_
       refine csw Tryz.func52 Tryz.call52 (by simp [Tryz.ntmps52]) (h := ?_)
       refine mkf 52 fun hF => ?_
       rw [Tryz.ntmps52, Tryz.results52]
       unfold laws_szMovS at h)
    | (with_reducible refine isf 34 ?_
       refine csw Tryz.func34 Tryz.call34 (by simp [Tryz.ntmps34]) (h := ?_)
       refine mkf 34 fun hF => ?_
       rw [Tryz.ntmps34, Tryz.results34]
       unfold laws_szValS at h)
    | (with_reducible refine isf 80 ?_
       refine csw Tryz.func80 Tryz.call80 (by simp [Tryz.ntmps80]) (h := ?_)
       refine mkf 80 fun hF => ?_
       rw [Tryz.ntmps80, Tryz.results80]
       unfold laws_toIns at h)
    | (with_reducible refine isf 63 ?_
       refine csw Tryz.func63 Tryz.call63 (by simp [Tryz.ntmps63]) (h := ?_)
       refine mkf 63 fun hF => ?_
       rw [Tryz.ntmps63, Tryz.results63]
       unfold laws_toVal at h)
  all_goals (replace h := Yes.mk h; simp only [entryS, entryO, Nat.reduceAdd, List.length_nil, List.length_cons])
  repeat' (first
 | (with_reducible (first | refine sw_reg ?_ | refine sw_ret ?_ | refine sw_skip ?_ | refine sw_block ?_ | refine sw_exit ?_ | refine seqQ_normal ?_ | refine blockQ_normal ?_ | refine blockQ_ret ?_ | refine blockQ_this ?_ | refine blockQ_other (by decide) ?_ | refine regW_nil ?_ | refine sw_draw mixed ?_ | refine retQ_ret ?_ | refine retQ_normal ?_))
 | (with_reducible refine regD_nil ?_
    refine ⟨by kernel_rfl, ?_⟩)
 | (revert h; (first | ((with_reducible refine idx_elim ?_); intro m hm1 hm2 hm3 h; (try (simp only [Int.reduceToNat] at hm3)); (try (revert hm3; (with_reducible apply same_elim); (focus (with_reducible assumption)); rintro rfl)); (try (simp only [List.length_set, List.length_cons, List.length_nil, List.length_replicate, Nat.reduceAdd, Int.cast_ofNat_Int, Nat.zero_add, List.length_append] at hm2))) | (with_reducible refine sidx_elim ?_; intro m hm1 hm3 h) | (with_reducible refine gd_elim ?_; intro hg h; try (have hg2 := hg.2; have hg := hg.1; (try (simp only [Nat.reduceLeDiff] at hg2)); (try (revert hg2; (with_reducible refine toNat_elim hg ?_); intro hg2 hg4)); try (have hg3 := hg2.2; have hg2 := hg2.1; (try (simp only [Nat.reduceLeDiff] at hg3))))) | (with_reducible refine condt_elim ?_ ?_; (focus (with_reducible assumption)); intro h) | (with_reducible refine condf_elim ?_ ?_; (focus (with_reducible assumption)); intro h)))
 | ((with_reducible first | refine pnR ?_ | refine pnE ?_ | refine pmR ?_ | refine pmE ?_)
    obtain rfl := h.get
    have h := hK
    clear hK
    (try (simp only [Sum.elim_inl, Sum.elim_inr] at h)))
 | ((with_reducible refine fi 84 ?_ ?_); (focus (with_reducible assumption))
    first
    | (with_reducible refine here_loop (c := (.seq (.region 4 _ _) _)) ?_
       revert h
       with_reducible refine bind_elimY ?_
       intro o1 h hK
       refine lpA (β := (List GMov) × (List GMov) × Int × Int) 10000000 (fun x => [(.s 0, some (.v (.d (.row .bor 3 (Rw GMov.cells x.2.1))))), (.s 1, some (.v (.d (.row .bor 3 (Rw GMov.cells x.2.2.1))))), (.s 12, some (.v (V.int x.2.2.2.1))), (.s 13, some (.v (V.int x.2.2.2.2)))]) (fun x => Yes (slices_Equal_impl_Mov_impl_Mov.l1 x.1 x.2.1 x.2.2.1 x.2.2.2.1 x.2.2.2.2) o1) (_, _, _, _, _) h ?_
       rintro ⟨_ | k, a1, a2, a3, a4⟩ h
       · simp only [slices_Equal_impl_Mov_impl_Mov.l1] at h; exact h.none
       simp only [slices_Equal_impl_Mov_impl_Mov.l1] at h
   ))
 | ((with_reducible refine fi 85 ?_ ?_); (focus (with_reducible assumption))
    first
    | (with_reducible refine here_loop (c := (.seq (.region 4 _ _) _)) ?_
       revert h
       with_reducible refine bind_elimY ?_
       intro o1 h hK
       refine lpA (β := (List GI2) × (List GI2) × Int × Int) 10000000 (fun x => [(.s 0, some (.v (.d (.row .bor 2 (Rw GI2.cells x.2.1))))), (.s 1, some (.v (.d (.row .bor 2 (Rw GI2.cells x.2.2.1))))), (.s 12, some (.v (V.int x.2.2.2.1))), (.s 13, some (.v (V.int x.2.2.2.2)))]) (fun x => Yes (slices_Equal_impl_Val_impl_Val.l1 x.1 x.2.1 x.2.2.1 x.2.2.2.1 x.2.2.2.2) o1) (_, _, _, _, _) h ?_
       rintro ⟨_ | k, a1, a2, a3, a4⟩ h
       · simp only [slices_Equal_impl_Val_impl_Val.l1] at h; exact h.none
       simp only [slices_Equal_impl_Val_impl_Val.l1] at h
   ))
 | ((with_reducible refine fi 39 ?_ ?_); (focus (with_reducible assumption))
    first
    | (with_reducible refine here_join (a := (.seq (.region 3 _ _) _)) (b := (.seq (.seq (.region 5 _ _) _) _)) ?_
       revert h
       with_reducible refine bind_elimY ?_
       intro o1 h hK
       unfold spec_OpName.a1 at h
       refine sw_join (ι := (List ByteArray) × Int) 10000000 (fun x => [(.s 0, some (.v (V.int x.2))), (.s 4, some (.v (.sl 256 1 0 x.1.length))), (.r 256, some (.o 1 (dd (Rw cS x.1))))]) (fun x => Yes (some (.inr x)) o1) ?_ ?_
       rotate_left
       rintro ⟨b1, b2⟩ h
       obtain rfl := h.get
       have h := hK
       clear hK
       (try (simp only [Sum.elim_inl, Sum.elim_inr] at h))
       refine sw_gh ?_
       refine gh_sw ?_))
 | ((with_reducible refine fi 16 ?_ ?_); (focus (with_reducible assumption))
    first
    | (with_reducible refine here_join (a := (.seq (.region 7 _ _) _)) (b := (.seq (.region 9 _ _) _)) ?_
       revert h
       with_reducible refine bind_elimY ?_
       intro o2 h hK
       unfold spec_l01Dec.a2 at h
       refine sw_join (ι := Int × Bool × ByteArray × Int) 20000000 (fun x => [(.s 0, some (.v (V.int x.1))), (.s 3, some (.v (V.bool x.2.1))), (.s 4, some (.v (.d (.p (.string x.2.2.1))))), (.s 5, some (.v (V.int x.2.2.2)))]) (fun x => Yes (some (x)) o2) ?_ ?_
       rotate_left
       rintro ⟨b1, b2, b3, b4⟩ h
       obtain rfl := h.get
       have h := hK
       clear hK
       (try (simp only [Sum.elim_inl, Sum.elim_inr] at h))
       refine sw_gh ?_
       refine gh_sw ?_)
    | (with_reducible refine here_loop (c := (.seq (.seq (.region 5 _ _) _) _)) ?_
       revert h
       with_reducible refine bind_elimY ?_
       intro o1 h hK
       refine lpA (β := Int × Bool × ByteArray) 10000000 (fun x => [(.s 0, some (.v (V.int x.2.1))), (.s 3, some (.v (V.bool x.2.2.1))), (.s 4, some (.v (.d (.p (.string x.2.2.2)))))]) (fun x => Yes (spec_l01Dec.l1 x.1 x.2.1 x.2.2.1 x.2.2.2) o1) (_, _, _, _) h ?_
       rintro ⟨_ | k, a1, a2, a3⟩ h
       · simp only [spec_l01Dec.l1] at h; exact h.none
       simp only [spec_l01Dec.l1] at h
   ))
 | ((with_reducible refine fi 54 ?_ ?_); (focus (with_reducible assumption))
    first
    | (with_reducible refine here_loop (c := (.seq (.seq (.region 2 _ _) _) _)) ?_
       revert h
       with_reducible refine bind_elimY ?_
       intro o1 h hK
       refine lpA (β := (List Bool) × Int) 10000000 (fun x => [(.s 0, some (.v (.d (.row .bor 1 (Rw cB x.2.1))))), (.s 3, some (.v (V.int x.2.2)))]) (fun x => Yes (spec_l04Least.l1 x.1 x.2.1 x.2.2) o1) (_, _, _) h ?_
       rintro ⟨_ | k, a1, a2⟩ h
       · simp only [spec_l04Least.l1] at h; exact h.none
       simp only [spec_l04Least.l1] at h
   ))
 | (with_reducible refine here_next ?_
    first | refine nxA (_, _, _) h | refine nxA (_, _, _, _) h | refine nxA (_, _, _, _, _) h)
 | (with_reducible refine here_meet ?_
    first | refine mtA (_, _) h | refine mtA (_, _, _, _) h)
 | with_reducible refine sw_seq ?_
 | with_reducible refine seqQ_ret ?_
 | with_reducible refine seqQ_exit ?_
 | ((with_reducible refine fi 69 ?_ ?_); (focus (with_reducible assumption))
    first
    | (with_reducible refine here_retw ?_
       with_reducible apply gh_conv 0
       · simp only [lkd, lkb, reduceCtorEq, Nat.reduceEqDiff]; rfl
       · exact .cons (.cons (.nil (m := .own) (s := 3)) (.cons .same (.cons .same (.cons (.nil (m := .own) (s := 2)) (.cons .same (.nil)))))) .nil
       skip))
 | ((with_reducible refine fi 100 ?_ ?_); (focus (with_reducible assumption))
    first
    | (with_reducible refine gh_nilRow 4 .own 1 ?_ ?_
       · simp only [lkd, lkb, reduceCtorEq, Nat.reduceEqDiff]; done
       skip))
 | ((with_reducible refine fi 75 ?_ ?_); (focus (with_reducible assumption))
    first
    | (with_reducible refine gh_nilRow 0 .own 1 ?_ ?_
       · simp only [lkd, lkb, reduceCtorEq, Nat.reduceEqDiff]; done
       skip))
 | ((with_reducible refine fi 66 ?_ ?_); (focus (with_reducible assumption))
    first
    | (with_reducible refine gh_nilRow 4 .own 2 ?_ ?_
       · simp only [lkd, lkb, reduceCtorEq, Nat.reduceEqDiff]; done
       skip))
 | ((with_reducible refine wp_ite ?_ ?_)
    all_goals (intro hc; (try (simp only [Bool.not_eq_true, Bool.not_eq_false] at hc)); simp only [hc]))
 | (with_reducible refine rskip (hs := ?_) (h2 := ?_)
    · simp only [lkd, lkb, reduceCtorEq, Nat.reduceEqDiff]; done)
 | (with_reducible refine ryes (hs := ?_) (h := ?_)
    · simp only [lkd, lkb, reduceCtorEq, Nat.reduceEqDiff]; done)
 | (with_reducible refine rno (hs := ?_) (h := ?_)
    · simp only [lkd, lkb, reduceCtorEq, Nat.reduceEqDiff, Bool.not_true, Bool.not_false]; done)
 | (with_reducible apply regW_guardN
    · simp only [dstOk, Nat.reduceLT]
    · rfl
    · simp only [lkd, lkb, reduceCtorEq, Nat.reduceEqDiff]; rfl
    all_goals (intro hc; (try (simp only [Bool.not_true, Bool.not_false] at hc))))
 | (with_reducible apply sw_cond
    · simp only [lkd, lkb, reduceCtorEq, Nat.reduceEqDiff]; rfl
    all_goals (intro hc; try (cases hc; done)))
 | ((first
     | ((with_reducible refine gh_ret ?_)
        revert h
        with_reducible refine some_elim ?_
        rintro rfl)
     | (with_reducible (first | refine ropD (h := ?_) | refine ropW (h := ?_))
        intro k hk)
     | skip)
    simp only [bn, lkb, evb, evd, Value.oneCell', setSeg, reduceCtorEq, Nat.reduceAdd, Nat.reduceMul, Nat.reduceSub, Nat.reduceLT, Nat.reduceLeDiff, Nat.reduceEqDiff, Int.reduceNeg, Int.reduceToNat, ty2, ty3, ty4, ty5, ty9, ty32, ty34, ty36, ty37, ty39, ty48, ty50, ty51, ty53, ty56, ty58, ty67, ty71, ty72, ty77, ty79, ty80, ty90, ty102, ty105, ty109, ty113, ty114, ty118, ty132, ty135, GAsm.cells, GAsmIns.cells, GFunc.cells, GI2.cells, GMov.cells, GProgram.cells, Gprog.cells, cI, cB, cS, cL, GI2_e, GFunc_e, GProgram_e, Gprog_e, GMov_e, GAsmIns_e, GAsm_e, LcIi64_e, LGI2_e, buildP, buildSliceP, putParts, structPlaces, chunks, List.replicate, List.flatten_nil, List.flatten_cons, Option.bind_some, bb, shiftBin_shl, shiftBin_shr, intBin_quo, intBin_rem, Int.reduceLT, Int.reduceEq, not_false_eq_true, Int.not_lt, cellsEq, cellEq, Bool.and_true, fl56_slices_Equal_impl_Val_impl_Val, fl58_slices_Equal_impl_Mov_impl_Mov, nilEqP, ne_eq, not_false_eq_true, not_true_eq_false, bst, *]
    try (refine hk.use _ _ _ _ ?_; clear hk k))
 | fail)
  all_goals (try rfl)
  all_goals (try (simp; done))
  all_goals (try (simp_all; done))
def c_impl_bareNop := @And.left _ _ ge1
def c_impl_hasFunc := @And.left _ _ (@And.right _ _ ge1)
def c_impl_in := @And.left _ _ (@And.right _ _ (@And.right _ _ ge1))
def c_impl_loc := @And.left _ _ (@And.right _ _ (@And.right _ _ (@And.right _ _ ge1)))
def c_impl_next := @And.left _ _ (@And.right _ _ (@And.right _ _ (@And.right _ _ (@And.right _ _ ge1))))
def c_impl_opNames := @And.left _ _ (@And.right _ _ (@And.right _ _ (@And.right _ _ (@And.right _ _ (@And.right _ _ ge1)))))
def c_impl_prog_code := @And.left _ _ (@And.right _ _ (@And.right _ _ (@And.right _ _ (@And.right _ _ (@And.right _ _ (@And.right _ _ ge1))))))
def c_impl_prog_slots := @And.left _ _ (@And.right _ _ (@And.right _ _ (@And.right _ _ (@And.right _ _ (@And.right _ _ (@And.right _ _ (@And.right _ _ ge1)))))))
def c_slices_Equal_impl_Mov_impl_Mov := @And.left _ _ (@And.right _ _ (@And.right _ _ (@And.right _ _ (@And.right _ _ (@And.right _ _ (@And.right _ _ (@And.right _ _ (@And.right _ _ ge1))))))))
def c_slices_Equal_impl_Val_impl_Val := @And.left _ _ (@And.right _ _ (@And.right _ _ (@And.right _ _ (@And.right _ _ (@And.right _ _ (@And.right _ _ (@And.right _ _ (@And.right _ _ (@And.right _ _ ge1)))))))))
def c_spec_OpName := @And.left _ _ (@And.right _ _ (@And.right _ _ (@And.right _ _ (@And.right _ _ (@And.right _ _ (@And.right _ _ (@And.right _ _ (@And.right _ _ (@And.right _ _ (@And.right _ _ ge1))))))))))
def c_spec_l01Dec := @And.left _ _ (@And.right _ _ (@And.right _ _ (@And.right _ _ (@And.right _ _ (@And.right _ _ (@And.right _ _ (@And.right _ _ (@And.right _ _ (@And.right _ _ (@And.right _ _ (@And.right _ _ ge1)))))))))))
def c_spec_l03Binary := @And.left _ _ (@And.right _ _ (@And.right _ _ (@And.right _ _ (@And.right _ _ (@And.right _ _ (@And.right _ _ (@And.right _ _ (@And.right _ _ (@And.right _ _ (@And.right _ _ (@And.right _ _ (@And.right _ _ ge1))))))))))))
def c_spec_l03Unary := @And.left _ _ (@And.right _ _ (@And.right _ _ (@And.right _ _ (@And.right _ _ (@And.right _ _ (@And.right _ _ (@And.right _ _ (@And.right _ _ (@And.right _ _ (@And.right _ _ (@And.right _ _ (@And.right _ _ (@And.right _ _ ge1)))))))))))))
def c_spec_l04Least := @And.left _ _ (@And.right _ _ (@And.right _ _ (@And.right _ _ (@And.right _ _ (@And.right _ _ (@And.right _ _ (@And.right _ _ (@And.right _ _ (@And.right _ _ (@And.right _ _ (@And.right _ _ (@And.right _ _ (@And.right _ _ (@And.right _ _ ge1))))))))))))))
def c_spec_l10Loc := @And.left _ _ (@And.right _ _ (@And.right _ _ (@And.right _ _ (@And.right _ _ (@And.right _ _ (@And.right _ _ (@And.right _ _ (@And.right _ _ (@And.right _ _ (@And.right _ _ (@And.right _ _ (@And.right _ _ (@And.right _ _ (@And.right _ _ (@And.right _ _ ge1)))))))))))))))
def c_laws_eqIns := @And.left _ _ (@And.right _ _ (@And.right _ _ (@And.right _ _ (@And.right _ _ (@And.right _ _ (@And.right _ _ (@And.right _ _ (@And.right _ _ (@And.right _ _ (@And.right _ _ (@And.right _ _ (@And.right _ _ (@And.right _ _ (@And.right _ _ (@And.right _ _ (@And.right _ _ ge1))))))))))))))))
def c_laws_eqVal := @And.left _ _ (@And.right _ _ (@And.right _ _ (@And.right _ _ (@And.right _ _ (@And.right _ _ (@And.right _ _ (@And.right _ _ (@And.right _ _ (@And.right _ _ (@And.right _ _ (@And.right _ _ (@And.right _ _ (@And.right _ _ (@And.right _ _ (@And.right _ _ (@And.right _ _ (@And.right _ _ ge1)))))))))))))))))
def c_laws_szInsS := @And.left _ _ (@And.right _ _ (@And.right _ _ (@And.right _ _ (@And.right _ _ (@And.right _ _ (@And.right _ _ (@And.right _ _ (@And.right _ _ (@And.right _ _ (@And.right _ _ (@And.right _ _ (@And.right _ _ (@And.right _ _ (@And.right _ _ (@And.right _ _ (@And.right _ _ (@And.right _ _ (@And.right _ _ ge1))))))))))))))))))
def c_laws_szMovS := @And.left _ _ (@And.right _ _ (@And.right _ _ (@And.right _ _ (@And.right _ _ (@And.right _ _ (@And.right _ _ (@And.right _ _ (@And.right _ _ (@And.right _ _ (@And.right _ _ (@And.right _ _ (@And.right _ _ (@And.right _ _ (@And.right _ _ (@And.right _ _ (@And.right _ _ (@And.right _ _ (@And.right _ _ (@And.right _ _ ge1)))))))))))))))))))
def c_laws_szValS := @And.left _ _ (@And.right _ _ (@And.right _ _ (@And.right _ _ (@And.right _ _ (@And.right _ _ (@And.right _ _ (@And.right _ _ (@And.right _ _ (@And.right _ _ (@And.right _ _ (@And.right _ _ (@And.right _ _ (@And.right _ _ (@And.right _ _ (@And.right _ _ (@And.right _ _ (@And.right _ _ (@And.right _ _ (@And.right _ _ (@And.right _ _ ge1))))))))))))))))))))
def c_laws_toIns := @And.left _ _ (@And.right _ _ (@And.right _ _ (@And.right _ _ (@And.right _ _ (@And.right _ _ (@And.right _ _ (@And.right _ _ (@And.right _ _ (@And.right _ _ (@And.right _ _ (@And.right _ _ (@And.right _ _ (@And.right _ _ (@And.right _ _ (@And.right _ _ (@And.right _ _ (@And.right _ _ (@And.right _ _ (@And.right _ _ (@And.right _ _ (@And.right _ _ ge1)))))))))))))))))))))
def c_laws_toVal := (@And.right _ _ (@And.right _ _ (@And.right _ _ (@And.right _ _ (@And.right _ _ (@And.right _ _ (@And.right _ _ (@And.right _ _ (@And.right _ _ (@And.right _ _ (@And.right _ _ (@And.right _ _ (@And.right _ _ (@And.right _ _ (@And.right _ _ (@And.right _ _ (@And.right _ _ (@And.right _ _ (@And.right _ _ (@And.right _ _ (@And.right _ _ (@And.right _ _ ge1))))))))))))))))))))))
end Go.Proofs.YtfdgjiifeijjfaaGreatDoor