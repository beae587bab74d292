/- WHAT IS PROVED: an abstract walker over the model, what some functions of the program answer, and laws of these answers. Conditions: none. -/
import Derived.Test.YtdlaplgofgklnaaGreatKf5
namespace Go.Proofs.YtdlaplgofgklnaaGreat
open Go.Proofs Go.Proofs.YtdlaplgofgklnaaGreat.L
set_option maxHeartbeats 8000000
set_option linter.unusedSimpArgs false
set_option linter.unusedVariables false
set_option maxRecDepth 100000
set_option linter.defProp false
def impl_Unary (p0 : Int) (p1 : Int) : Option (GI2) :=
  cond ((p0 == 24)) (some ((⟨(IntKind.i64.wrap (0 - p1)), 0⟩ : GI2))) (cond ((p0 == 25)) (some ((⟨(inot .i64 p1), 0⟩ : GI2))) (cond ((p0 == 26)) (some ((⟨(IntKind.i64.wrap ((IntKind.i8.wrap p1))), 0⟩ : GI2))) (cond ((p0 == 27)) (some ((⟨(IntKind.i64.wrap ((IntKind.i16.wrap p1))), 0⟩ : GI2))) (cond ((p0 == 28)) (some ((⟨(IntKind.i64.wrap ((IntKind.i32.wrap p1))), 0⟩ : GI2))) (cond ((p0 == 29)) (some ((⟨(IntKind.i64.wrap ((IntKind.u32.wrap p1))), 0⟩ : GI2))) (some ((⟨0, 0⟩ : GI2))))))))
def impl_bit (p0 : Bool) : Option (GI2) :=
  cond p0 (some ((⟨1, 0⟩ : GI2))) (some ((⟨0, 0⟩ : GI2)))
def impl_hasFunc (p0 : GProgram) (p1 : Int) : Option (Bool) :=
  cond ((decide (p1 ≥ 0))) (some ((decide (p1 < ((p0.funcs.length : Int)))))) (some false)
def impl_in (p0 : Int) (p1 : Int) (p2 : Int) : Option (Bool) :=
  cond ((decide (p0 ≥ p1))) (some ((decide (p0 ≤ p2)))) (some false)
def impl_next (p0 : GI2) (p1 : Int) : Option ((List Int)) :=
  cond ((p0.a == 33)) (some []) (cond ((p0.a == 30)) (some ([p0.b])) (cond ((p0.a == 31)) (some ([(IntKind.i64.wrap (p1 + 1)), p0.b])) (some ([(IntKind.i64.wrap (p1 + 1))]))))
def impl_opNames : Option ((List ByteArray)) :=
  some ([(⟨#[]⟩ : ByteArray), (⟨#[112, 117, 115, 104]⟩ : ByteArray), (⟨#[108, 111, 97, 100]⟩ : ByteArray), (⟨#[115, 116, 111, 114, 101]⟩ : ByteArray), (⟨#[100, 117, 112]⟩ : ByteArray), (⟨#[112, 111, 112]⟩ : ByteArray), (⟨#[]⟩ : ByteArray), (⟨#[]⟩ : ByteArray), (⟨#[]⟩ : ByteArray), (⟨#[]⟩ : ByteArray), (⟨#[97, 100, 100]⟩ : ByteArray), (⟨#[115, 117, 98]⟩ : ByteArray), (⟨#[109, 117, 108]⟩ : ByteArray), (⟨#[100, 105, 118]⟩ : ByteArray), (⟨#[114, 101, 109]⟩ : ByteArray), (⟨#[97, 110, 100]⟩ : ByteArray), (⟨#[111, 114]⟩ : ByteArray), (⟨#[120, 111, 114]⟩ : ByteArray), (⟨#[115, 104, 108]⟩ : ByteArray), (⟨#[115, 104, 114]⟩ : ByteArray), (⟨#[117, 115, 104, 114]⟩ : ByteArray), (⟨#[108, 101, 115, 115]⟩ : ByteArray), (⟨#[97, 116, 109, 111, 115, 116]⟩ : ByteArray), (⟨#[115, 97, 109, 101]⟩ : ByteArray), (⟨#[110, 101, 103]⟩ : ByteArray), (⟨#[110, 111, 116]⟩ : ByteArray), (⟨#[98, 121, 116, 101]⟩ : ByteArray), (⟨#[115, 104, 111, 114, 116]⟩ : ByteArray), (⟨#[105, 110, 116]⟩ : ByteArray), (⟨#[119, 111, 114, 100]⟩ : ByteArray), (⟨#[106, 117, 109, 112]⟩ : ByteArray), (⟨#[106, 122]⟩ : ByteArray), (⟨#[99, 97, 108, 108]⟩ : ByteArray), (⟨#[114, 101, 116]⟩ : ByteArray), (⟨#[110, 101, 119]⟩ : ByteArray), (⟨#[103, 101, 116]⟩ : ByteArray), (⟨#[115, 101, 116]⟩ : ByteArray), (⟨#[108, 101, 110]⟩ : ByteArray), (⟨#[111, 117, 116]⟩ : ByteArray)])
def impl_prog_at (p0 : Gprog) (p1 : Int) (p2 : Int) : Option (GI2) :=
  (idx p0.program.funcs p1).bind fun m1 => (idx m1.code p2).bind fun m2 => some m2
def impl_prog_depth (p0 : Gprog) (p1 : Int) (p2 : Int) (p3 : Int) : Option (Int) :=
  cond ((decide (p3 < 0))) ((idx p0.h p1).bind fun m1 => (idx m1 p2).bind fun m2 => some m2) ((idx p0.h p1).bind fun m3 => (idx m3 p2).bind fun m4 => some ((IntKind.i64.wrap (m4 - 1))))
def impl_run_alive (p0 : Grun) : Option (Bool) :=
  cond ((!p0.world.done)) (some ((decide (p0.world.fuel0 > 0)))) (some false)
def impl_world_end_v0F0c2n1 (p0 : Grun) (p1 : Int) : Option (Grun) :=
  some ((⟨p0.k, p0.frames, (⟨p0.world.heap, p0.world.out, p0.world.fuel0, true, p0.world.value, p1⟩ : Gworld)⟩ : Grun))
def slices_Equal_int64_int64.l1 : Nat → (List Int) → (List Int) → Int → Int → Option ((Bool) ⊕ (Unit))
  | 0, _, _, _, _ => none
  | k + 1, a1, a2, a3, a4 => cond ((decide (a4 < a3))) ((idx a1 a4).bind fun m1 => (idx a2 a4).bind fun m2 => cond ((m1 != m2)) (some (.inl (false))) (slices_Equal_int64_int64.l1 k a1 a2 a3 ((IntKind.i64.wrap (a4 + 1))))) (some (.inr ()))
def slices_Equal_int64_int64 (k : Nat) (p0 : (List Int)) (p1 : (List Int)) : Option (Bool) :=
  cond ((((p0.length : Int)) != ((p1.length : Int)))) (some false) ((slices_Equal_int64_int64.l1 k p0 p1 ((p0.length : Int)) 0).bind fun o1 => Sum.elim (fun o1l => some o1l) (fun o1r => some true) o1)
def spec_OpName.a1 (k : Nat) (a1 : (List ByteArray)) (a2 : (List ByteArray)) (a3 : Int) : Option ((ByteArray) ⊕ ((List ByteArray) × Int)) :=
  cond ((decide (a3 ≥ 1))) (cond ((decide (a3 ≤ 5))) ((idx a1 ((IntKind.i64.wrap (a3 - 1)))).bind fun m1 => some (.inl (m1))) (some (.inr (a2, a3)))) (some (.inr (a2, a3)))
def spec_OpName (k : Nat) (p0 : Int) : Option (ByteArray) :=
  (spec_OpName.a1 k ([(⟨#[112, 117, 115, 104]⟩ : ByteArray), (⟨#[108, 111, 97, 100]⟩ : ByteArray), (⟨#[115, 116, 111, 114, 101]⟩ : ByteArray), (⟨#[100, 117, 112]⟩ : ByteArray), (⟨#[112, 111, 112]⟩ : ByteArray)]) ([(⟨#[97, 100, 100]⟩ : ByteArray), (⟨#[115, 117, 98]⟩ : ByteArray), (⟨#[109, 117, 108]⟩ : ByteArray), (⟨#[100, 105, 118]⟩ : ByteArray), (⟨#[114, 101, 109]⟩ : ByteArray), (⟨#[97, 110, 100]⟩ : ByteArray), (⟨#[111, 114]⟩ : ByteArray), (⟨#[120, 111, 114]⟩ : ByteArray), (⟨#[115, 104, 108]⟩ : ByteArray), (⟨#[115, 104, 114]⟩ : ByteArray), (⟨#[117, 115, 104, 114]⟩ : ByteArray), (⟨#[108, 101, 115, 115]⟩ : ByteArray), (⟨#[97, 116, 109, 111, 115, 116]⟩ : ByteArray), (⟨#[115, 97, 109, 101]⟩ : ByteArray), (⟨#[110, 101, 103]⟩ : ByteArray), (⟨#[110, 111, 116]⟩ : ByteArray), (⟨#[98, 121, 116, 101]⟩ : ByteArray), (⟨#[115, 104, 111, 114, 116]⟩ : ByteArray), (⟨#[105, 110, 116]⟩ : ByteArray), (⟨#[119, 111, 114, 100]⟩ : ByteArray), (⟨#[106, 117, 109, 112]⟩ : ByteArray), (⟨#[106, 122]⟩ : ByteArray), (⟨#[99, 97, 108, 108]⟩ : ByteArray), (⟨#[114, 101, 116]⟩ : ByteArray), (⟨#[110, 101, 119]⟩ : ByteArray), (⟨#[103, 101, 116]⟩ : ByteArray), (⟨#[115, 101, 116]⟩ : ByteArray), (⟨#[108, 101, 110]⟩ : ByteArray), (⟨#[111, 117, 116]⟩ : ByteArray)]) p0).bind fun o1 => Sum.elim (fun o1l => some o1l) (fun o1r => cond ((decide (o1r.2 ≥ 10))) (cond ((decide (o1r.2 ≤ 38))) ((idx o1r.1 ((IntKind.i64.wrap (o1r.2 - 10)))).bind fun m2 => some m2) (some ((⟨#[]⟩ : ByteArray)))) (some ((⟨#[]⟩ : ByteArray)))) o1
def spec_Unary (p0 : Int) (p1 : Int) : Option (GI2) :=
  cond ((p0 == 24)) (some ((⟨(IntKind.i64.wrap (0 - p1)), 0⟩ : GI2))) (cond ((p0 == 25)) (some ((⟨(inot .i64 p1), 0⟩ : GI2))) (cond ((p0 == 26)) (some ((⟨(IntKind.i64.wrap ((IntKind.i8.wrap p1))), 0⟩ : GI2))) (cond ((p0 == 27)) (some ((⟨(IntKind.i64.wrap ((IntKind.i16.wrap p1))), 0⟩ : GI2))) (cond ((p0 == 28)) (some ((⟨(IntKind.i64.wrap ((IntKind.i32.wrap p1))), 0⟩ : GI2))) (cond ((p0 == 29)) (some ((⟨(IntKind.i64.wrap ((IntKind.u32.wrap p1))), 0⟩ : GI2))) (some ((⟨0, 0⟩ : GI2))))))))
def spec_l01Min (p0 : Int) (p1 : Int) : Option (Int) :=
  cond ((decide (p0 < p1))) (some p0) (some p1)
def spec_l01Source.a2 (k : Nat) (a1 : Gl01Src) (a2 : (List Int)) (a3 : Int) : Option ((Gl01Src × (List Int) × Int) ⊕ (Gl01Src × (List Int))) :=
  cond ((decide (a3 < ((a2.length : Int))))) (cond ((decide (a3 < 64))) (some (.inl (a1, a2, a3))) (some (.inr (a1, a2)))) (some (.inr (a1, a2)))
def spec_l01Source.l1 : Nat → Gl01Src → (List Int) → Int → Option (Gl01Src × (List Int))
  | 0, _, _, _ => none
  | k + 1, a1, a2, a3 => (spec_l01Source.a2 k a1 a2 a3).bind fun o2 => Sum.elim (fun o2l => (idx o2l.2.1 o2l.2.2).bind fun m1 => spec_l01Source.l1 k ((⟨o2l.1.b, o2l.1.at0, (IntKind.u64.wrap (((ixor .u64 o2l.1.mix ((IntKind.u64.wrap m1)))) * 1099511628211)), o2l.1.size⟩ : Gl01Src)) o2l.2.1 ((IntKind.i64.wrap (o2l.2.2 + 1)))) (fun o2r => some (o2r.1, o2r.2)) o2
def spec_l01Source (k : Nat) (p0 : (List Int)) : Option (Gl01Src) :=
  (spec_l01Source.l1 k ((⟨p0, 0, 88172645463325252, 0⟩ : Gl01Src)) p0 0).bind fun o1 => cond ((decide (((iquo .i64 ((o1.2.length : Int)) 20)) > 12))) (some ((⟨o1.1.b, o1.1.at0, o1.1.mix, 12⟩ : Gl01Src))) (some ((⟨o1.1.b, o1.1.at0, o1.1.mix, (iquo .i64 ((o1.2.length : Int)) 20)⟩ : Gl01Src)))
def spec_l01Src_n.a1 (k : Nat) (a1 : Gl01Src) (a2 : Int) (a3 : Int) : Option (Gl01Src × Int × Int) :=
  cond ((decide (a1.at0 < ((a1.b.length : Int))))) ((idx a1.b a1.at0).bind fun m1 => some ((⟨a1.b, (IntKind.i64.wrap (a1.at0 + 1)), a1.mix, a1.size⟩ : Gl01Src), a2, (IntKind.u64.wrap m1))) (some (a1, a2, a3))
def spec_l01Src_n (k : Nat) (p0 : Gl01Src) (p1 : Int) : Option (Int × Gl01Src) :=
  cond ((decide (p1 ≤ 1))) (some (0, p0)) ((spec_l01Src_n.a1 k p0 p1 0).bind fun o1 => gd (((IntKind.u64.wrap o1.2.1)) ≠ 0) (some ((IntKind.i64.wrap ((((IntKind.u64.wrap (o1.2.2 + ((ishr .u64 ((ixor .u64 ((ixor .u64 ((ixor .u64 o1.1.mix ((ishl .u64 o1.1.mix 13)))) ((ishr .u64 ((ixor .u64 o1.1.mix ((ishl .u64 o1.1.mix 13)))) 7)))) ((ishl .u64 ((ixor .u64 ((ixor .u64 o1.1.mix ((ishl .u64 o1.1.mix 13)))) ((ishr .u64 ((ixor .u64 o1.1.mix ((ishl .u64 o1.1.mix 13)))) 7)))) 17)))) 20))))).tmod ((IntKind.u64.wrap o1.2.1))))), (⟨o1.1.b, o1.1.at0, (ixor .u64 ((ixor .u64 ((ixor .u64 o1.1.mix ((ishl .u64 o1.1.mix 13)))) ((ishr .u64 ((ixor .u64 o1.1.mix ((ishl .u64 o1.1.mix 13)))) 7)))) ((ishl .u64 ((ixor .u64 ((ixor .u64 o1.1.mix ((ishl .u64 o1.1.mix 13)))) ((ishr .u64 ((ixor .u64 o1.1.mix ((ishl .u64 o1.1.mix 13)))) 7)))) 17))), o1.1.size⟩ : Gl01Src))))
def spec_l02If (p0 : Bool) : Option (Int) :=
  cond p0 (some 1) (some 0)
def spec_l02Over (p0 : Int) (p1 : Int) (p2 : Int) : Option (GI2) :=
  cond ((p2 == 0)) (some ((⟨0, 11⟩ : GI2))) (cond ((p2 == ((-1)))) (cond ((p0 == 13)) (some ((⟨(IntKind.i64.wrap (0 - p1)), 0⟩ : GI2))) (some ((⟨0, 0⟩ : GI2)))) (cond ((p0 == 13)) (gd (p2 ≠ 0) (some ((⟨(iquo .i64 p1 p2), 0⟩ : GI2)))) (gd (p2 ≠ 0) (some ((⟨(p1.tmod p2), 0⟩ : GI2))))))
def spec_l03Binary (p0 : Int) : Option (Bool) :=
  cond ((decide (p0 ≥ 10))) (some ((decide (p0 ≤ 23)))) (some false)
def spec_l03Gen_full (p0 : Gl03Gen) : Option (Bool × Gl03Gen) :=
  some ((decide (((p0.code.length : Int)) ≥ p0.most)), p0)
def spec_l03Gen_here (p0 : Gl03Gen) (p1 : Int) : Option (Gl03Gen) :=
  (idx p0.code p1).bind fun m1 => some ((⟨p0.s, p0.args, p0.locals, (p0.code.set p1.toNat ((⟨m1.a, (p0.code.length : Int)⟩ : GI2))), p0.most⟩ : Gl03Gen))
def spec_l03Gen_put (p0 : Gl03Gen) (p1 : Int) (p2 : Int) : Option (Int × Gl03Gen) :=
  gd ((p0.code.length + 1) * 16 ≤ 35184372088832 ∧ p0.code.length + 1 ≤ 35184372088832) (some ((IntKind.i64.wrap (((((p0.code ++ [(⟨p1, p2⟩ : GI2)])).length : Int)) - 1)), (⟨p0.s, p0.args, p0.locals, (p0.code ++ [(⟨p1, p2⟩ : GI2)]), p0.most⟩ : Gl03Gen)))
def spec_l03Unary (p0 : Int) : Option (Bool) :=
  cond ((decide (p0 ≥ 24))) (some ((decide (p0 ≤ 29)))) (some false)
def spec_l04Least.l1 : Nat → (List Bool) → Int → Option ((Int) ⊕ (Unit))
  | 0, _, _ => none
  | k + 1, a1, a2 => cond ((decide (a2 < ((a1.length : Int))))) ((idx a1 a2).bind fun m1 => cond m1 (some (.inl (a2))) (spec_l04Least.l1 k a1 ((IntKind.i64.wrap (a2 + 1))))) (some (.inr ()))
def spec_l04Least (k : Nat) (p0 : (List Bool)) : Option (Int) :=
  (spec_l04Least.l1 k p0 0).bind fun o1 => Sum.elim (fun o1l => some o1l) (fun o1r => some ((-1))) o1
theorem gr5 : (∀ {p0 : Int} {p1 : Int} {r : GI2}, impl_Unary p0 p1 = some r → Con Tryz.prog 141 [V.int p0, V.int p1] [] (.agg [V.int r.a, V.int r.b]) []) ∧
  (∀ {p0 : Bool} {r : GI2}, impl_bit p0 = some r → Con Tryz.prog 150 [V.bool p0] [] (.agg [V.int r.a, V.int r.b]) []) ∧
  (∀ {p0 : GProgram} {p1 : Int} {r : Bool}, impl_hasFunc p0 p1 = some r → Con Tryz.prog 119 [.agg [.d (.row .bor 3 (Rw (GFunc.cells .bor) p0.funcs))], V.int p1] [] (V.bool r) []) ∧
  (∀ {p0 : Int} {p1 : Int} {p2 : Int} {r : Bool}, impl_in p0 p1 p2 = some r → Con Tryz.prog 110 [V.int p0, V.int p1, V.int p2] [] (V.bool r) []) ∧
  (∀ {p0 : GI2} {p1 : Int} {r : (List Int)}, impl_next p0 p1 = some r → Con Tryz.prog 138 [.agg [V.int p0.a, V.int p0.b], V.int p1] [] (.d (.row .own 1 (Rw (cI .i64) r))) []) ∧
  (∀ {r : (List ByteArray)}, impl_opNames = some r → Con Tryz.prog 149 [] [] (.d (.row .own 1 (Rw cS r))) []) ∧
  (∀ {p0 : Gprog} {p1 : Int} {p2 : Int} {r : GI2}, impl_prog_at p0 p1 p2 = some r → Con Tryz.prog 117 [.d (.ptr .bor [.row .bor 3 (Rw (GFunc.cells .bor) p0.program.funcs), .row .bor 1 (Rw (cL .bor 1 (cI .i64)) p0.h)]), V.int p1, V.int p2] [] (.agg [V.int r.a, V.int r.b]) []) ∧
  (∀ {p0 : Gprog} {p1 : Int} {p2 : Int} {p3 : Int} {r : Int}, impl_prog_depth p0 p1 p2 p3 = some r → Con Tryz.prog 114 [.d (.ptr .bor [.row .bor 3 (Rw (GFunc.cells .bor) p0.program.funcs), .row .bor 1 (Rw (cL .bor 1 (cI .i64)) p0.h)]), V.int p1, V.int p2, V.int p3] [] (V.int r) []) ∧
  (∀ {p0 : Grun} {r : Bool}, impl_run_alive p0 = some r → Con Tryz.prog 34 [.d (.ptr .bor [.ptr .bor [.row .bor 3 (Rw (GFunc.cells .bor) p0.k.program.funcs), .row .bor 1 (Rw (cL .bor 1 (cI .i64)) p0.k.h)], .row .bor 4 (Rw (GFrame.cells .bor) p0.frames), .row .bor 1 (Rw (cL .bor 1 (cI .i64)) p0.world.heap), .row .bor 1 (Rw (cI .i64) p0.world.out), .p (.int .i64 p0.world.fuel0), .p (.bool p0.world.done), .p (.int .i64 p0.world.value), .p (.int .i64 p0.world.trap)])] [] (V.bool r) []) ∧
  (∀ {p0 : Grun} {p1 : Int} {r : Grun}, impl_world_end_v0F0c2n1 p0 p1 = some r → Con Tryz.prog 79 [.mp 0 8 0 2, V.int p1] [.o 8 [[.d (.ptr .bor [.row .bor 3 (Rw (GFunc.cells .bor) p0.k.program.funcs), .row .bor 1 (Rw (cL .bor 1 (cI .i64)) p0.k.h)]), .sl 1 4 0 p0.frames.length, .d (.row .own 1 (Rw (cL .own 1 (cI .i64)) p0.world.heap)), .d (.row .own 1 (Rw (cI .i64) p0.world.out)), V.int p0.world.fuel0, V.bool p0.world.done, V.int p0.world.value, V.int p0.world.trap]], .o 4 (dd (Rw (GFrame.cells .own) p0.frames))] (.tup []) [.o 8 [[.d (.ptr .bor [.row .bor 3 (Rw (GFunc.cells .bor) r.k.program.funcs), .row .bor 1 (Rw (cL .bor 1 (cI .i64)) r.k.h)]), .sl 1 4 0 p0.frames.length, .d (.row .own 1 (Rw (cL .own 1 (cI .i64)) r.world.heap)), .d (.row .own 1 (Rw (cI .i64) r.world.out)), V.int r.world.fuel0, V.bool r.world.done, V.int r.world.value, V.int r.world.trap]], .o 4 (dd (Rw (GFrame.cells .own) p0.frames))]) ∧
  (∀ {k : Nat} {p0 : (List Int)} {p1 : (List Int)} {r : Bool}, slices_Equal_int64_int64 k p0 p1 = some r → Con Tryz.prog 45 [.d (.row .bor 1 (Rw (cI .i64) p0)), .d (.row .bor 1 (Rw (cI .i64) p1))] [] (V.bool r) []) ∧
  (∀ {k : Nat} {p0 : Int} {r : ByteArray}, spec_OpName k p0 = some r → Con Tryz.prog 148 [V.int p0] [] (.d (.p (.string r))) []) ∧
  (∀ {p0 : Int} {p1 : Int} {r : GI2}, spec_Unary p0 p1 = some r → Con Tryz.prog 126 [V.int p0, V.int p1] [] (.agg [V.int r.a, V.int r.b]) []) ∧
  (∀ {p0 : Int} {p1 : Int} {r : Int}, spec_l01Min p0 p1 = some r → Con Tryz.prog 99 [V.int p0, V.int p1] [] (V.int r) []) ∧
  (∀ {k : Nat} {p0 : (List Int)} {r : Gl01Src}, spec_l01Source k p0 = some r → Con Tryz.prog 65 [.d (.row .bor 1 (Rw (cI .u8) p0))] [] (.d (.ptr .own [.row .bor 1 (Rw (cI .u8) r.b), .p (.int .i64 r.at0), .p (.int .u64 r.mix), .p (.int .i64 r.size)])) []) ∧
  (∀ {k : Nat} {p0 : Gl01Src} {p1 : Int} {r : Int × Gl01Src}, spec_l01Src_n k p0 p1 = some r → Con Tryz.prog 98 [.mp 0 4 0 0, V.int p1] [.o 4 [[.d (.row .bor 1 (Rw (cI .u8) p0.b)), V.int p0.at0, .d (.p (.int .u64 p0.mix)), V.int p0.size]]] (V.int r.1) [.o 4 [[.d (.row .bor 1 (Rw (cI .u8) r.2.b)), V.int r.2.at0, .d (.p (.int .u64 r.2.mix)), V.int r.2.size]]]) ∧
  (∀ {p0 : Bool} {r : Int}, spec_l02If p0 = some r → Con Tryz.prog 143 [V.bool p0] [] (V.int r) []) ∧
  (∀ {p0 : Int} {p1 : Int} {p2 : Int} {r : GI2}, spec_l02Over p0 p1 p2 = some r → Con Tryz.prog 142 [V.int p0, V.int p1, V.int p2] [] (.agg [V.int r.a, V.int r.b]) []) ∧
  (∀ {p0 : Int} {r : Bool}, spec_l03Binary p0 = some r → Con Tryz.prog 123 [V.int p0] [] (V.bool r) []) ∧
  (∀ {p0 : Gl03Gen} {r : Bool × Gl03Gen}, spec_l03Gen_full p0 = some r → Con Tryz.prog 131 [.mp 0 5 0 0] [.o 5 [[.mp 1 4 0 0, .sl 2 1 0 p0.args.length, V.int p0.locals, .d (.row .own 2 (Rw GI2.cells p0.code)), V.int p0.most]], .o 4 [[.d (.row .bor 1 (Rw (cI .u8) p0.s.b)), V.int p0.s.at0, .d (.p (.int .u64 p0.s.mix)), V.int p0.s.size]], .o 1 (dd (Rw (cI .i64) p0.args))] (V.bool r.1) [.o 5 [[.mp 1 4 0 0, .sl 2 1 0 p0.args.length, V.int r.2.locals, .d (.row .own 2 (Rw GI2.cells r.2.code)), V.int r.2.most]], .o 4 [[.d (.row .bor 1 (Rw (cI .u8) r.2.s.b)), V.int r.2.s.at0, .d (.p (.int .u64 r.2.s.mix)), V.int r.2.s.size]], .o 1 (dd (Rw (cI .i64) r.2.args))]) ∧
  (∀ {p0 : Gl03Gen} {p1 : Int} {r : Gl03Gen}, spec_l03Gen_here p0 p1 = some r → Con Tryz.prog 132 [.mp 0 5 0 0, V.int p1] [.o 5 [[.mp 1 4 0 0, .sl 2 1 0 p0.args.length, V.int p0.locals, .d (.row .own 2 (Rw GI2.cells p0.code)), V.int p0.most]], .o 4 [[.d (.row .bor 1 (Rw (cI .u8) p0.s.b)), V.int p0.s.at0, .d (.p (.int .u64 p0.s.mix)), V.int p0.s.size]], .o 1 (dd (Rw (cI .i64) p0.args))] (.tup []) [.o 5 [[.mp 1 4 0 0, .sl 2 1 0 p0.args.length, V.int r.locals, .d (.row .own 2 (Rw GI2.cells r.code)), V.int r.most]], .o 4 [[.d (.row .bor 1 (Rw (cI .u8) r.s.b)), V.int r.s.at0, .d (.p (.int .u64 r.s.mix)), V.int r.s.size]], .o 1 (dd (Rw (cI .i64) r.args))]) ∧
  (∀ {p0 : Gl03Gen} {p1 : Int} {p2 : Int} {r : Int × Gl03Gen}, spec_l03Gen_put p0 p1 p2 = some r → Con Tryz.prog 102 [.mp 0 5 0 0, V.int p1, V.int p2] [.o 5 [[.mp 1 4 0 0, .sl 2 1 0 p0.args.length, V.int p0.locals, .d (.row .own 2 (Rw GI2.cells p0.code)), V.int p0.most]], .o 4 [[.d (.row .bor 1 (Rw (cI .u8) p0.s.b)), V.int p0.s.at0, .d (.p (.int .u64 p0.s.mix)), V.int p0.s.size]], .o 1 (dd (Rw (cI .i64) p0.args))] (V.int r.1) [.o 5 [[.mp 1 4 0 0, .sl 2 1 0 p0.args.length, V.int r.2.locals, .d (.row .own 2 (Rw GI2.cells r.2.code)), V.int r.2.most]], .o 4 [[.d (.row .bor 1 (Rw (cI .u8) r.2.s.b)), V.int r.2.s.at0, .d (.p (.int .u64 r.2.s.mix)), V.int r.2.s.size]], .o 1 (dd (Rw (cI .i64) r.2.args))]) ∧
  (∀ {p0 : Int} {r : Bool}, spec_l03Unary p0 = some r → Con Tryz.prog 124 [V.int p0] [] (V.bool r) []) ∧
  (∀ {k : Nat} {p0 : (List Bool)} {r : Int}, spec_l04Least k p0 = some r → Con Tryz.prog 109 [.d (.row .bor 1 (Rw cB p0))] [] (V.int r) []) := by
  refine ⟨?_, ?_, ?_, ?_, ?_, ?_, ?_, ?_, ?_, ?_, ?_, ?_, ?_, ?_, ?_, ?_, ?_, ?_, ?_, ?_, ?_, ?_, ?_, ?_⟩
  all_goals intros
  all_goals rename_i h
  all_goals first
    | (with_reducible refine isf 141 ?_
       refine csw Tryz.func141 Tryz.call141 (by simp [Tryz.ntmps141]) (h := ?_)
       refine mkf 141 fun hF => ?_
       rw [Tryz.ntmps141, Tryz.results141]
       unfold impl_Unary at h)
    | (with_reducible refine isf 150 ?_
       refine csw Tryz.func150 Tryz.call150 (by simp [Tryz.ntmps150]) (h := ?_)
       refine mkf 150 fun hF => ?_
       rw [Tryz.ntmps150, Tryz.results150]
       unfold impl_bit at h)
    | (with_reducible refine isf 119 ?_
       refine csw Tryz.func119 Tryz.call119 (by simp [Tryz.ntmps119]) (h := ?_)
       refine mkf 119 fun hF => ?_
       rw [Tryz.ntmps119, Tryz.results119]
       unfold impl_hasFunc at h)
    | (with_reducible refine isf 110 ?_
       refine csw Tryz.func110 Tryz.call110 (by simp [Tryz.ntmps110]) (h := ?_)
       refine mkf 110 fun hF => ?_
       rw [Tryz.ntmps110, Tryz.results110]
       unfold impl_in at h)
    | (with_reducible refine isf 138 ?_
       refine csw Tryz.func138 Tryz.call138 (by simp [Tryz.ntmps138]) (h := ?_)
       refine mkf 138 fun hF => ?_
       rw [Tryz.ntmps138, Tryz.results138]
       unfold impl_next at h)
    | (with_reducible refine isf 149 ?_
       refine csw Tryz.func149 Tryz.call149 (by simp [Tryz.ntmps149]) (h := ?_)
       refine mkf 149 fun hF => ?_
       rw [Tryz.ntmps149, Tryz.results149]
       unfold impl_opNames at h)
    | (with_reducible refine isf 117 ?_
       refine csw Tryz.func117 Tryz.call117 (by simp [Tryz.ntmps117]) (h := ?_)
       refine mkf 117 fun hF => ?_
       rw [Tryz.ntmps117, Tryz.results117]
       unfold impl_prog_at at h)
    | (with_reducible refine isf 114 ?_
       refine csw Tryz.func114 Tryz.call114 (by simp [Tryz.ntmps114]) (h := ?_)
       refine mkf 114 fun hF => ?_
       rw [Tryz.ntmps114, Tryz.results114]
       unfold impl_prog_depth at h)
    | (with_reducible refine isf 34 ?_
       refine csw Tryz.func34 Tryz.call34 (by simp [Tryz.ntmps34]) (h := ?_)
       refine mkf 34 fun hF => ?_
       rw [Tryz.ntmps34, Tryz.results34]
       unfold impl_run_alive at h)
    | (with_reducible refine isf 79 ?_
       refine csw Tryz.func79 Tryz.call79 (by simp [Tryz.ntmps79]) (h := ?_)
       refine mkf 100085 fun hF => ?_
       rw [Tryz.ntmps79, Tryz.results79]
       unfold impl_world_end_v0F0c2n1 at h)
    | (with_reducible refine isf 45 ?_
       refine csw Tryz.func45 Tryz.call45 (by simp [Tryz.ntmps45]) (h := ?_)
       refine mkf 45 fun hF => ?_
       rw [Tryz.ntmps45, Tryz.results45]
       unfold slices_Equal_int64_int64 at h)
    | (with_reducible refine isf 148 ?_
       refine csw Tryz.func148 Tryz.call148 (by simp [Tryz.ntmps148]) (h := ?_)
       refine mkf 148 fun hF => ?_
       rw [Tryz.ntmps148, Tryz.results148]
       unfold spec_OpName at h)
    | (with_reducible refine isf 126 ?_
       refine csw Tryz.func126 Tryz.call126 (by simp [Tryz.ntmps126]) (h := ?_)
       refine mkf 126 fun hF => ?_
       rw [Tryz.ntmps126, Tryz.results126]
       unfold spec_Unary at h)
    | (with_reducible refine isf 99 ?_
       refine csw Tryz.func99 Tryz.call99 (by simp [Tryz.ntmps99]) (h := ?_)
       refine mkf 99 fun hF => ?_
       rw [Tryz.ntmps99, Tryz.results99]
       unfold spec_l01Min at h)
    | (with_reducible refine isf 65 ?_
       refine csw Tryz.func65 Tryz.call65 (by simp [Tryz.ntmps65]) (h := ?_)
       refine mkf 65 fun hF => ?_
       rw [Tryz.ntmps65, Tryz.results65]
       unfold spec_l01Source at h)
    | (with_reducible refine isf 98 ?_
       refine csw Tryz.func98 Tryz.call98 (by simp [Tryz.ntmps98]) (h := ?_)
       refine mkf 98 fun hF => ?_
       rw [Tryz.ntmps98, Tryz.results98]
       unfold spec_l01Src_n at h)
    | (with_reducible refine isf 143 ?_
       refine csw Tryz.func143 Tryz.call143 (by simp [Tryz.ntmps143]) (h := ?_)
       refine mkf 143 fun hF => ?_
       rw [Tryz.ntmps143, Tryz.results143]
       unfold spec_l02If at h)
    | (with_reducible refine isf 142 ?_
       refine csw Tryz.func142 Tryz.call142 (by simp [Tryz.ntmps142]) (h := ?_)
       refine mkf 142 fun hF => ?_
       rw [Tryz.ntmps142, Tryz.results142]
       unfold spec_l02Over at h)
    | (with_reducible refine isf 123 ?_
       refine csw Tryz.func123 Tryz.call123 (by simp [Tryz.ntmps123]) (h := ?_)
       refine mkf 123 fun hF => ?_
       rw [Tryz.ntmps123, Tryz.results123]
       unfold spec_l03Binary at h)
    | (with_reducible refine isf 131 ?_
       refine csw Tryz.func131 Tryz.call131 (by simp [Tryz.ntmps131]) (h := ?_)
       refine mkf 131 fun hF => ?_
       rw [Tryz.ntmps131, Tryz.results131]
       unfold spec_l03Gen_full at h)
    | (with_reducible refine isf 132 ?_
       refine csw Tryz.func132 Tryz.call132 (by simp [Tryz.ntmps132]) (h := ?_)
       refine mkf 132 fun hF => ?_
       rw [Tryz.ntmps132, Tryz.results132]
       unfold spec_l03Gen_here at h)
    | (with_reducible refine isf 102 ?_
       refine csw Tryz.func102 Tryz.call102 (by simp [Tryz.ntmps102]) (h := ?_)
       refine mkf 102 fun hF => ?_
       rw [Tryz.ntmps102, Tryz.results102]
       unfold spec_l03Gen_put at h)
    | (with_reducible refine isf 124 ?_
       refine csw Tryz.func124 Tryz.call124 (by simp [Tryz.ntmps124]) (h := ?_)
       refine mkf 124 fun hF => ?_
       rw [Tryz.ntmps124, Tryz.results124]
       unfold spec_l03Unary at h)
    | (with_reducible refine isf 109 ?_
       refine csw Tryz.func109 Tryz.call109 (by simp [Tryz.ntmps109]) (h := ?_)
       refine mkf 109 fun hF => ?_
       rw [Tryz.ntmps109, Tryz.results109]
       unfold spec_l04Least at h)
  all_goals (replace h := Yes.mk h; simp only [entryS, entryO, Nat.reduceAdd, List.length_nil, List.length_cons])
  repeat' (first
 | ((with_reducible refine fi 131 ?_ ?_); (focus (with_reducible assumption))
    first
    | (with_reducible refine here_reg (i := 1) ?_
       refine sw_gh ?_
       with_reducible apply gh_nameCell 0 3
       · simp only [lkd, lkb, reduceCtorEq, Nat.reduceEqDiff]; rfl
       · rfl
       simp only [List.set_cons_zero, List.set_cons_succ, Nat.reduceAdd, Rw_length]
       refine gh_sw ?_))
 | ((with_reducible refine fi 132 ?_ ?_); (focus (with_reducible assumption))
    first
    | (with_reducible refine here_reg (i := 0) ?_
       refine sw_gh ?_
       with_reducible apply gh_nameCell 0 3
       · simp only [lkd, lkb, reduceCtorEq, Nat.reduceEqDiff]; rfl
       · rfl
       simp only [List.set_cons_zero, List.set_cons_succ, Nat.reduceAdd, Rw_length]
       refine gh_sw ?_))
 | (with_reducible (first | refine sw_reg ?_ | refine sw_ret ?_ | refine sw_skip ?_ | refine sw_block ?_ | refine sw_exit ?_ | refine seqQ_normal ?_ | refine blockQ_normal ?_ | refine blockQ_ret ?_ | refine blockQ_this ?_ | refine blockQ_other (by decide) ?_ | refine regW_nil ?_ | refine sw_draw mixed ?_ | refine retQ_ret ?_ | refine retQ_normal ?_))
 | (with_reducible refine regD_nil ?_
    refine ⟨by kernel_rfl, ?_⟩)
 | (revert h; (first | ((with_reducible refine idx_elim ?_); intro m hm1 hm2 hm3 h; (try (simp only [Int.reduceToNat] at hm3)); (try (revert hm3; (with_reducible apply same_elim); (focus (with_reducible assumption)); rintro rfl)); (try (simp only [List.length_set, List.length_cons, List.length_nil, List.length_replicate, Nat.reduceAdd, Int.cast_ofNat_Int, Nat.zero_add, List.length_append] at hm2))) | (with_reducible refine sidx_elim ?_; intro m hm1 hm3 h) | (with_reducible refine gd_elim ?_; intro hg h; try (have hg2 := hg.2; have hg := hg.1; (try (simp only [Nat.reduceLeDiff] at hg2)); (try (revert hg2; (with_reducible refine toNat_elim hg ?_); intro hg2 hg4)); try (have hg3 := hg2.2; have hg2 := hg2.1; (try (simp only [Nat.reduceLeDiff] at hg3))))) | (with_reducible refine condt_elim ?_ ?_; (focus (with_reducible assumption)); intro h) | (with_reducible refine condf_elim ?_ ?_; (focus (with_reducible assumption)); intro h)))
 | ((with_reducible first | refine pnR ?_ | refine pnE ?_ | refine pmR ?_ | refine pmE ?_)
    obtain rfl := h.get
    have h := hK
    clear hK
    (try (simp only [Sum.elim_inl, Sum.elim_inr] at h)))
 | ((with_reducible refine fi 45 ?_ ?_); (focus (with_reducible assumption))
    first
    | (with_reducible refine here_loop (c := (.seq (.region 4 _ _) _)) ?_
       revert h
       with_reducible refine bind_elimY ?_
       intro o1 h hK
       refine lpA (β := (List Int) × (List Int) × Int × Int) 10000000 (fun x => [(.s 0, some (.v (.d (.row .bor 1 (Rw (cI .i64) x.2.1))))), (.s 1, some (.v (.d (.row .bor 1 (Rw (cI .i64) x.2.2.1))))), (.s 12, some (.v (V.int x.2.2.2.1))), (.s 13, some (.v (V.int x.2.2.2.2)))]) (fun x => Yes (slices_Equal_int64_int64.l1 x.1 x.2.1 x.2.2.1 x.2.2.2.1 x.2.2.2.2) o1) (_, _, _, _, _) h ?_
       rintro ⟨_ | k, a1, a2, a3, a4⟩ h
       · simp only [slices_Equal_int64_int64.l1] at h; exact h.none
       simp only [slices_Equal_int64_int64.l1] at h
   ))
 | ((with_reducible refine fi 148 ?_ ?_); (focus (with_reducible assumption))
    first
    | (with_reducible refine here_join (a := (.seq (.region 3 _ _) _)) (b := (.seq (.seq (.region 5 _ _) _) _)) ?_
       revert h
       with_reducible refine bind_elimY ?_
       intro o1 h hK
       unfold spec_OpName.a1 at h
       refine sw_join (ι := (List ByteArray) × Int) 10000000 (fun x => [(.s 0, some (.v (V.int x.2))), (.s 4, some (.v (.sl 256 1 0 x.1.length))), (.r 256, some (.o 1 (dd (Rw cS x.1))))]) (fun x => Yes (some (.inr x)) o1) ?_ ?_
       rotate_left
       rintro ⟨b1, b2⟩ h
       obtain rfl := h.get
       have h := hK
       clear hK
       (try (simp only [Sum.elim_inl, Sum.elim_inr] at h))
       refine sw_gh ?_
       refine gh_sw ?_))
 | ((with_reducible refine fi 65 ?_ ?_); (focus (with_reducible assumption))
    first
    | (with_reducible refine here_join (a := (.seq (.region 3 _ _) _)) (b := (.seq (.block 1 _) _)) ?_
       revert h
       with_reducible refine bind_elimY ?_
       intro o2 h hK
       unfold spec_l01Source.a2 at h
       refine sw_join (ι := Gl01Src × (List Int) × Int) 20000000 (fun x => [(.s 0, some (.v (.d (.row .bor 1 (Rw (cI .u8) x.2.1))))), (.s 3, some (.v (.mp 192 4 0 0))), (.s 4, some (.v (V.int x.2.2))), (.r 192, some (.o 4 [[.d (.row .bor 1 (Rw (cI .u8) x.1.b)), V.int x.1.at0, .d (.p (.int .u64 x.1.mix)), V.int x.1.size]]))]) (fun x => Yes (some (.inl x)) o2) ?_ ?_
       rotate_left
       rintro ⟨b1, b2, b3⟩ h
       obtain rfl := h.get
       have h := hK
       clear hK
       (try (simp only [Sum.elim_inl, Sum.elim_inr] at h))
       refine sw_gh ?_
       refine gh_sw ?_)
    | (with_reducible refine here_loop (c := (.seq (.seq (.region 3 _ _) _) _)) ?_
       revert h
       with_reducible refine bind_elimY ?_
       intro o1 h hK
       refine lpA (β := Gl01Src × (List Int) × Int) 10000000 (fun x => [(.s 0, some (.v (.d (.row .bor 1 (Rw (cI .u8) x.2.2.1))))), (.s 3, some (.v (.mp 192 4 0 0))), (.s 4, some (.v (V.int x.2.2.2))), (.r 192, some (.o 4 [[.d (.row .bor 1 (Rw (cI .u8) x.2.1.b)), V.int x.2.1.at0, .d (.p (.int .u64 x.2.1.mix)), V.int x.2.1.size]]))]) (fun x => Yes (spec_l01Source.l1 x.1 x.2.1 x.2.2.1 x.2.2.2) o1) (_, _, _, _) h ?_
       rintro ⟨_ | k, a1, a2, a3⟩ h
       · simp only [spec_l01Source.l1] at h; exact h.none
       simp only [spec_l01Source.l1] at h
   ))
 | ((with_reducible refine fi 98 ?_ ?_); (focus (with_reducible assumption))
    first
    | (with_reducible refine here_join (a := (.seq (.region 4 _ _) _)) (b := (.seq (.region 7 _ _) _)) ?_
       revert h
       with_reducible refine bind_elimY ?_
       intro o1 h hK
       unfold spec_l01Src_n.a1 at h
       refine sw_join (ι := Gl01Src × Int × Int) 10000000 (fun x => [(.s 0, some (.v (.mp 0 4 0 0))), (.s 1, some (.v (V.int x.2.1))), (.s 5, some (.v (.d (.p (.int .u64 x.2.2))))), (.r 0, some (.o 4 [[.d (.row .bor 1 (Rw (cI .u8) x.1.b)), V.int x.1.at0, .d (.p (.int .u64 x.1.mix)), V.int x.1.size]]))]) (fun x => Yes (some (x)) o1) ?_ ?_
       rotate_left
       rintro ⟨b1, b2, b3⟩ h
       obtain rfl := h.get
       have h := hK
       clear hK
       (try (simp only [Sum.elim_inl, Sum.elim_inr] at h))
       refine sw_gh ?_
       refine gh_sw ?_))
 | ((with_reducible refine fi 109 ?_ ?_); (focus (with_reducible assumption))
    first
    | (with_reducible refine here_loop (c := (.seq (.seq (.region 2 _ _) _) _)) ?_
       revert h
       with_reducible refine bind_elimY ?_
       intro o1 h hK
       refine lpA (β := (List Bool) × Int) 10000000 (fun x => [(.s 0, some (.v (.d (.row .bor 1 (Rw cB x.2.1))))), (.s 3, some (.v (V.int x.2.2)))]) (fun x => Yes (spec_l04Least.l1 x.1 x.2.1 x.2.2) o1) (_, _, _) h ?_
       rintro ⟨_ | k, a1, a2⟩ h
       · simp only [spec_l04Least.l1] at h; exact h.none
       simp only [spec_l04Least.l1] at h
   ))
 | (with_reducible refine here_next ?_
    first | refine nxA (_, _, _) h | refine nxA (_, _, _, _) h | refine nxA (_, _, _, _, _) h)
 | (with_reducible refine here_meet ?_
    first | refine mtA (_, _) h | refine mtA (_, _, _) h)
 | with_reducible refine sw_seq ?_
 | with_reducible refine seqQ_ret ?_
 | with_reducible refine seqQ_exit ?_
 | ((with_reducible refine fi 138 ?_ ?_); (focus (with_reducible assumption))
    first
    | (with_reducible refine gh_nilRow 4 .own 1 ?_ ?_
       · simp only [lkd, lkb, reduceCtorEq, Nat.reduceEqDiff]; done
       skip))
 | ((with_reducible refine fi 149 ?_ ?_); (focus (with_reducible assumption))
    first
    | (with_reducible refine gh_nilRow 0 .own 1 ?_ ?_
       · simp only [lkd, lkb, reduceCtorEq, Nat.reduceEqDiff]; done
       skip))
 | ((with_reducible refine fi 131 ?_ ?_); (focus (with_reducible assumption))
    first
    | (with_reducible refine here_retw ?_
       with_reducible apply gh_resSl 0 3
       · simp only [lkd, lkb, reduceCtorEq, Nat.reduceEqDiff]; rfl
       · rfl
       simp only [rxb, Nat.reduceAdd, Nat.reduceLeDiff, rxd, lkd, lkb, reduceCtorEq, Nat.reduceEqDiff, *]))
 | ((with_reducible refine fi 132 ?_ ?_); (focus (with_reducible assumption))
    first
    | (with_reducible refine here_retw ?_
       with_reducible apply gh_resSl 0 3
       · simp only [lkd, lkb, reduceCtorEq, Nat.reduceEqDiff]; rfl
       · rfl
       simp only [rxb, Nat.reduceAdd, Nat.reduceLeDiff, rxd, lkd, lkb, reduceCtorEq, Nat.reduceEqDiff, *]))
 | ((with_reducible refine fi 102 ?_ ?_); (focus (with_reducible assumption))
    first
    | (with_reducible refine here_retw ?_
       with_reducible apply gh_resSl 0 3
       · simp only [lkd, lkb, reduceCtorEq, Nat.reduceEqDiff]; rfl
       · rfl
       simp only [rxb, Nat.reduceAdd, Nat.reduceLeDiff, rxd, lkd, lkb, reduceCtorEq, Nat.reduceEqDiff, *]))
 | ((with_reducible refine wp_ite ?_ ?_)
    all_goals (intro hc; (try (simp only [Bool.not_eq_true, Bool.not_eq_false] at hc)); simp only [hc]))
 | (with_reducible refine rskip (hs := ?_) (h2 := ?_)
    · simp only [lkd, lkb, reduceCtorEq, Nat.reduceEqDiff]; done)
 | (with_reducible refine ryes (hs := ?_) (h := ?_)
    · simp only [lkd, lkb, reduceCtorEq, Nat.reduceEqDiff]; done)
 | (with_reducible refine rno (hs := ?_) (h := ?_)
    · simp only [lkd, lkb, reduceCtorEq, Nat.reduceEqDiff, Bool.not_true, Bool.not_false]; done)
 | (with_reducible apply regW_guardN
    · simp only [dstOk, Nat.reduceLT]
    · rfl
    · simp only [lkd, lkb, reduceCtorEq, Nat.reduceEqDiff]; rfl
    all_goals (intro hc; (try (simp only [Bool.not_true, Bool.not_false] at hc))))
 | (with_reducible apply sw_cond
    · simp only [lkd, lkb, reduceCtorEq, Nat.reduceEqDiff]; rfl
    all_goals (intro hc; try (cases hc; done)))
 | ((first
     | ((with_reducible refine gh_ret ?_)
        revert h
        with_reducible refine some_elim ?_
        rintro rfl)
     | (with_reducible (first | refine ropD (h := ?_) | refine ropW (h := ?_))
        intro k hk)
     | skip)
    simp only [bn, lkb, evb, evd, Value.oneCell', setSeg, reduceCtorEq, Nat.reduceAdd, Nat.reduceMul, Nat.reduceSub, Nat.reduceLT, Nat.reduceLeDiff, Nat.reduceEqDiff, Int.reduceNeg, Int.reduceToNat, ty2, ty3, ty4, ty5, ty9, ty21, ty22, ty23, ty25, ty26, ty27, ty28, ty29, ty38, ty39, ty56, ty58, ty63, ty85, ty92, ty94, ty98, ty102, ty104, ty109, ty120, ty129, ty131, ty138, ty140, ty142, ty145, ty154, ty163, ty179, ty180, ty181, ty183, ty185, GFrame.cells, GFunc.cells, GI2.cells, GProgram.cells, GState.cells, Gl01Src.cells, Gprog.cells, Gworld.cells, cI, cB, cS, cL, Gl01Src_e, GI2_e, GFunc_e, GProgram_e, GFrame_e, GState_e, Gprog_e, Gworld_e, LcIi64_e, buildP, buildSliceP, putParts, structPlaces, chunks, List.replicate, List.flatten_nil, List.flatten_cons, Option.bind_some, bb, GI2_b, shiftBin_shl, shiftBin_shr, intBin_quo, intBin_rem, Int.reduceLT, Int.reduceEq, not_false_eq_true, Int.not_lt, nilEqP, ne_eq, not_false_eq_true, not_true_eq_false, *]
    try (refine hk.use _ _ _ _ ?_; clear hk k))
 | fail)
  all_goals (try rfl)
  all_goals (try (simp; done))
  all_goals (try (simp_all; done))
def c_impl_Unary := @And.left _ _ gr5
def c_impl_bit := @And.left _ _ (@And.right _ _ gr5)
def c_impl_hasFunc := @And.left _ _ (@And.right _ _ (@And.right _ _ gr5))
def c_impl_in := @And.left _ _ (@And.right _ _ (@And.right _ _ (@And.right _ _ gr5)))
def c_impl_next := @And.left _ _ (@And.right _ _ (@And.right _ _ (@And.right _ _ (@And.right _ _ gr5))))
def c_impl_opNames := @And.left _ _ (@And.right _ _ (@And.right _ _ (@And.right _ _ (@And.right _ _ (@And.right _ _ gr5)))))
def c_impl_prog_at := @And.left _ _ (@And.right _ _ (@And.right _ _ (@And.right _ _ (@And.right _ _ (@And.right _ _ (@And.right _ _ gr5))))))
def c_impl_prog_depth := @And.left _ _ (@And.right _ _ (@And.right _ _ (@And.right _ _ (@And.right _ _ (@And.right _ _ (@And.right _ _ (@And.right _ _ gr5)))))))
def c_impl_run_alive := @And.left _ _ (@And.right _ _ (@And.right _ _ (@And.right _ _ (@And.right _ _ (@And.right _ _ (@And.right _ _ (@And.right _ _ (@And.right _ _ gr5))))))))
def c_impl_world_end_v0F0c2n1 := @And.left _ _ (@And.right _ _ (@And.right _ _ (@And.right _ _ (@And.right _ _ (@And.right _ _ (@And.right _ _ (@And.right _ _ (@And.right _ _ (@And.right _ _ gr5)))))))))
def c_slices_Equal_int64_int64 := @And.left _ _ (@And.right _ _ (@And.right _ _ (@And.right _ _ (@And.right _ _ (@And.right _ _ (@And.right _ _ (@And.right _ _ (@And.right _ _ (@And.right _ _ (@And.right _ _ gr5))))))))))
def c_spec_OpName := @And.left _ _ (@And.right _ _ (@And.right _ _ (@And.right _ _ (@And.right _ _ (@And.right _ _ (@And.right _ _ (@And.right _ _ (@And.right _ _ (@And.right _ _ (@And.right _ _ (@And.right _ _ gr5)))))))))))
def c_spec_Unary := @And.left _ _ (@And.right _ _ (@And.right _ _ (@And.right _ _ (@And.right _ _ (@And.right _ _ (@And.right _ _ (@And.right _ _ (@And.right _ _ (@And.right _ _ (@And.right _ _ (@And.right _ _ (@And.right _ _ gr5))))))))))))
def c_spec_l01Min := @And.left _ _ (@And.right _ _ (@And.right _ _ (@And.right _ _ (@And.right _ _ (@And.right _ _ (@And.right _ _ (@And.right _ _ (@And.right _ _ (@And.right _ _ (@And.right _ _ (@And.right _ _ (@And.right _ _ (@And.right _ _ gr5)))))))))))))
def c_spec_l01Source := @And.left _ _ (@And.right _ _ (@And.right _ _ (@And.right _ _ (@And.right _ _ (@And.right _ _ (@And.right _ _ (@And.right _ _ (@And.right _ _ (@And.right _ _ (@And.right _ _ (@And.right _ _ (@And.right _ _ (@And.right _ _ (@And.right _ _ gr5))))))))))))))
def c_spec_l01Src_n := @And.left _ _ (@And.right _ _ (@And.right _ _ (@And.right _ _ (@And.right _ _ (@And.right _ _ (@And.right _ _ (@And.right _ _ (@And.right _ _ (@And.right _ _ (@And.right _ _ (@And.right _ _ (@And.right _ _ (@And.right _ _ (@And.right _ _ (@And.right _ _ gr5)))))))))))))))
def c_spec_l02If := @And.left _ _ (@And.right _ _ (@And.right _ _ (@And.right _ _ (@And.right _ _ (@And.right _ _ (@And.right _ _ (@And.right _ _ (@And.right _ _ (@And.right _ _ (@And.right _ _ (@And.right _ _ (@And.right _ _ (@And.right _ _ (@And.right _ _ (@And.right _ _ (@And.right _ _ gr5))))))))))))))))
def c_spec_l02Over := @And.left _ _ (@And.right _ _ (@And.right _ _ (@And.right _ _ (@And.right _ _ (@And.right _ _ (@And.right _ _ (@And.right _ _ (@And.right _ _ (@And.right _ _ (@And.right _ _ (@And.right _ _ (@And.right _ _ (@And.right _ _ (@And.right _ _ (@And.right _ _ (@And.right _ _ (@And.right _ _ gr5)))))))))))))))))
def c_spec_l03Binary := @And.left _ _ (@And.right _ _ (@And.right _ _ (@And.right _ _ (@And.right _ _ (@And.right _ _ (@And.right _ _ (@And.right _ _ (@And.right _ _ (@And.right _ _ (@And.right _ _ (@And.right _ _ (@And.right _ _ (@And.right _ _ (@And.right _ _ (@And.right _ _ (@And.right _ _ (@And.right _ _ (@And.right _ _ gr5))))))))))))))))))
def c_spec_l03Gen_full := @And.left _ _ (@And.right _ _ (@And.right _ _ (@And.right _ _ (@And.right _ _ (@And.right _ _ (@And.right _ _ (@And.right _ _ (@And.right _ _ (@And.right _ _ (@And.right _ _ (@And.right _ _ (@And.right _ _ (@And.right _ _ (@And.right _ _ (@And.right _ _ (@And.right _ _ (@And.right _ _ (@And.right _ _ (@And.right _ _ gr5)))))))))))))))))))
def c_spec_l03Gen_here := @And.left _ _ (@And.right _ _ (@And.right _ _ (@And.right _ _ (@And.right _ _ (@And.right _ _ (@And.right _ _ (@And.right _ _ (@And.right _ _ (@And.right _ _ (@And.right _ _ (@And.right _ _ (@And.right _ _ (@And.right _ _ (@And.right _ _ (@And.right _ _ (@And.right _ _ (@And.right _ _ (@And.right _ _ (@And.right _ _ (@And.right _ _ gr5))))))))))))))))))))
def c_spec_l03Gen_put := @And.left _ _ (@And.right _ _ (@And.right _ _ (@And.right _ _ (@And.right _ _ (@And.right _ _ (@And.right _ _ (@And.right _ _ (@And.right _ _ (@And.right _ _ (@And.right _ _ (@And.right _ _ (@And.right _ _ (@And.right _ _ (@And.right _ _ (@And.right _ _ (@And.right _ _ (@And.right _ _ (@And.right _ _ (@And.right _ _ (@And.right _ _ (@And.right _ _ gr5)))))))))))))))))))))
def c_spec_l03Unary := @And.left _ _ (@And.right _ _ (@And.right _ _ (@And.right _ _ (@And.right _ _ (@And.right _ _ (@And.right _ _ (@And.right _ _ (@And.right _ _ (@And.right _ _ (@And.right _ _ (@And.right _ _ (@And.right _ _ (@And.right _ _ (@And.right _ _ (@And.right _ _ (@And.right _ _ (@And.right _ _ (@And.right _ _ (@And.right _ _ (@And.right _ _ (@And.right _ _ (@And.right _ _ gr5))))))))))))))))))))))
def c_spec_l04Least := (@And.right _ _ (@And.right _ _ (@And.right _ _ (@And.right _ _ (@And.right _ _ (@And.right _ _ (@And.right _ _ (@And.right _ _ (@And.right _ _ (@And.right _ _ (@And.right _ _ (@And.right _ _ (@And.right _ _ (@And.right _ _ (@And.right _ _ (@And.right _ _ (@And.right _ _ (@And.right _ _ (@And.right _ _ (@And.right _ _ (@And.right _ _ (@And.right _ _ (@And.right _ _ gr5)))))))))))))))))))))))
set_option linter.defProp false
def spec_l06Ends (p0 : Bool) (p1 : Int) (p2 : Int) : Option (Bool) :=
  cond p0 (cond ((p2 == 0)) (some true) (cond ((p1 == 0)) (cond ((decide (p2 ≥ 11))) (some ((decide (p2 ≤ 15)))) (some false)) (some false))) (some false)
def spec_l06Goes (p0 : GState) : Option (Bool) :=
  cond ((!p0.done)) (some ((decide (p0.fuel0 > 0)))) (some false)
def spec_l06Nums (p0 : (List Int)) : Option ((List Int)) :=
  gd (p0.length * 8 ≤ 35184372088832 ∧ p0.length ≤ 35184372088832) (some p0)
def spec_l06Rest.a1 (k : Nat) (a1 : Int) (a2 : (List (List Int))) (a3 : (List Int)) : Option ((Bool) ⊕ ((List (List Int)))) :=
  cond ((decide (a1 < 0))) (some (.inl (false))) (cond ((decide (a1 > 3000))) (some (.inl (false))) (cond ((decide (((a2.length : Int)) > 30))) (some (.inl (false))) (cond ((decide (((a3.length : Int)) > ((IntKind.i64.wrap (3000 - a1)))))) (some (.inl (false))) (some (.inr (a2))))))
def spec_l06Rest.l2 : Nat → (List (List Int)) → Int → Option ((Bool) ⊕ (Unit))
  | 0, _, _ => none
  | k + 1, a1, a2 => cond ((decide (a2 < ((a1.length : Int))))) ((idx a1 a2).bind fun m1 => cond ((decide (((m1.length : Int)) > 50))) (some (.inl (false))) (spec_l06Rest.l2 k a1 ((IntKind.i64.wrap (a2 + 1))))) (some (.inr ()))
def spec_l06Rest (k : Nat) (p0 : Int) (p1 : (List (List Int))) (p2 : (List Int)) : Option (Bool) :=
  (spec_l06Rest.a1 k p0 p1 p2).bind fun o1 => Sum.elim (fun o1l => some o1l) (fun o1r => (spec_l06Rest.l2 k o1r 0).bind fun o2 => Sum.elim (fun o2l => some o2l) (fun o2r => some true) o2) o1
def spec_l06SameNums.l1 : Nat → (List Int) → (List Int) → Int → Option ((Bool) ⊕ (Unit))
  | 0, _, _, _ => none
  | k + 1, a1, a2, a3 => cond ((decide (a3 < ((a1.length : Int))))) ((idx a1 a3).bind fun m1 => (idx a2 a3).bind fun m2 => cond ((m1 != m2)) (some (.inl (false))) (spec_l06SameNums.l1 k a1 a2 ((IntKind.i64.wrap (a3 + 1))))) (some (.inr ()))
def spec_l06SameNums (k : Nat) (p0 : (List Int)) (p1 : (List Int)) : Option (Bool) :=
  cond ((((p0.length : Int)) != ((p1.length : Int)))) (some false) ((spec_l06SameNums.l1 k p0 p1 0).bind fun o1 => Sum.elim (fun o1l => some o1l) (fun o1r => some true) o1)
def spec_l06Trap (p0 : GState) (p1 : Int) : Option (GState) :=
  some ((⟨[], p0.heap, p0.out, p0.fuel0, true, p0.value, p1⟩ : GState))
def laws_lwAt.a1 (k : Nat) (a1 : (List Int)) (a2 : Int) (a3 : Int) : Option ((Int) ⊕ ((List Int) × Int × Int)) :=
  cond ((decide (a3 ≤ 1))) (some (.inl (0))) (cond ((((a1.length : Int)) == 0)) (some (.inl (0))) (some (.inr (a1, a2, a3))))
def laws_lwAt (k : Nat) (p0 : (List Int)) (p1 : Int) (p2 : Int) : Option (Int) :=
  (laws_lwAt.a1 k p0 p1 p2).bind fun o1 => Sum.elim (fun o1l => some o1l) (fun o1r => gd (((o1r.1.length : Int)) ≠ 0) ((idx o1r.1 ((o1r.2.1.tmod ((o1r.1.length : Int))))).bind fun m1 => gd (o1r.2.2 ≠ 0) (some ((((IntKind.i64.wrap m1)).tmod o1r.2.2))))) o1
theorem gr6 : (∀ {p0 : Bool} {p1 : Int} {p2 : Int} {r : Bool}, spec_l06Ends p0 p1 p2 = some r → Con Tryz.prog 28 [V.bool p0, V.int p1, V.int p2] [] (V.bool r) []) ∧
  (∀ {p0 : GState} {r : Bool}, spec_l06Goes p0 = some r → Con Tryz.prog 40 [.agg [.d (.row .bor 4 (Rw (GFrame.cells .bor) p0.frames)), .d (.row .bor 1 (Rw (cL .bor 1 (cI .i64)) p0.heap)), .d (.row .bor 1 (Rw (cI .i64) p0.out)), V.int p0.fuel0, V.bool p0.done, V.int p0.value, V.int p0.trap]] [] (V.bool r) []) ∧
  (∀ {p0 : (List Int)} {r : (List Int)}, spec_l06Nums p0 = some r → Con Tryz.prog 83 [.d (.row .bor 1 (Rw (cI .i64) p0))] [] (.d (.row .own 1 (Rw (cI .i64) r))) []) ∧
  (∀ {k : Nat} {p0 : Int} {p1 : (List (List Int))} {p2 : (List Int)} {r : Bool}, spec_l06Rest k p0 p1 p2 = some r → Con Tryz.prog 27 [V.int p0, .d (.row .bor 1 (Rw (cL .bor 1 (cI .i64)) p1)), .d (.row .bor 1 (Rw (cI .i64) p2))] [] (V.bool r) []) ∧
  (∀ {k : Nat} {p0 : (List Int)} {p1 : (List Int)} {r : Bool}, spec_l06SameNums k p0 p1 = some r → Con Tryz.prog 38 [.d (.row .bor 1 (Rw (cI .i64) p0)), .d (.row .bor 1 (Rw (cI .i64) p1))] [] (V.bool r) []) ∧
  (∀ {p0 : GState} {p1 : Int} {r : GState}, spec_l06Trap p0 p1 = some r → Con Tryz.prog 86 [.mp 0 7 0 0, V.int p1] [.o 7 [[.d (.row .own 4 (Rw (GFrame.cells .own) p0.frames)), .d (.row .own 1 (Rw (cL .own 1 (cI .i64)) p0.heap)), .d (.row .own 1 (Rw (cI .i64) p0.out)), V.int p0.fuel0, V.bool p0.done, V.int p0.value, V.int p0.trap]]] (.tup []) [.o 7 [[.d (.row .own 4 (Rw (GFrame.cells .own) r.frames)), .d (.row .own 1 (Rw (cL .own 1 (cI .i64)) r.heap)), .d (.row .own 1 (Rw (cI .i64) r.out)), V.int r.fuel0, V.bool r.done, V.int r.value, V.int r.trap]]]) ∧
  (∀ {k : Nat} {p0 : (List Int)} {p1 : Int} {p2 : Int} {r : Int}, laws_lwAt k p0 p1 p2 = some r → Con Tryz.prog 14 [.d (.row .bor 1 (Rw (cI .u8) p0)), V.int p1, V.int p2] [] (V.int r) []) := by
  refine ⟨?_, ?_, ?_, ?_, ?_, ?_, ?_⟩
  all_goals intros
  all_goals rename_i h
  all_goals first
    | (with_reducible refine isf 28 ?_
       refine csw Tryz.func28 Tryz.call28 (by simp [Tryz.ntmps28]) (h := ?_)
       refine mkf 28 fun hF => ?_
       rw [Tryz.ntmps28, Tryz.results28]
       unfold spec_l06Ends at h)
    | (with_reducible refine isf 40 ?_
       refine csw Tryz.func40 Tryz.call40 (by simp [Tryz.ntmps40]) (h := ?_)
       refine mkf 40 fun hF => ?_
       rw [Tryz.ntmps40, Tryz.results40]
       unfold spec_l06Goes at h)
    | (with_reducible refine isf 83 ?_
       refine csw Tryz.func83 Tryz.call83 (by simp [Tryz.ntmps83]) (h := ?_)
       refine mkf 83 fun hF => ?_
       rw [Tryz.ntmps83, Tryz.results83]
       unfold spec_l06Nums at h)
    | (with_reducible refine isf 27 ?_
       refine csw Tryz.func27 Tryz.call27 (by simp [Tryz.ntmps27]) (h := ?_)
       refine mkf 27 fun hF => ?_
       rw [Tryz.ntmps27, Tryz.results27]
       unfold spec_l06Rest at h)
    | (with_reducible refine isf 38 ?_
       refine csw Tryz.func38 Tryz.call38 (by simp [Tryz.ntmps38]) (h := ?_)
       refine mkf 38 fun hF => ?_
       rw [Tryz.ntmps38, Tryz.results38]
       unfold spec_l06SameNums at h)
    | (with_reducible refine isf 86 ?_
       refine csw Tryz.func86 Tryz.call86 (by simp [Tryz.ntmps86]) (h := ?_)
       refine mkf 86 fun hF => ?_
       rw [Tryz.ntmps86, Tryz.results86]
       unfold spec_l06Trap at h)
    | (with_reducible refine isf 14 ?_
       refine csw Tryz.func14 Tryz.call14 (by simp [Tryz.ntmps14]) (h := ?_)
       refine mkf 14 fun hF => ?_
       rw [Tryz.ntmps14, Tryz.results14]
       unfold laws_lwAt at h)
  all_goals (replace h := Yes.mk h; simp only [entryS, entryO, Nat.reduceAdd, List.length_nil, List.length_cons])
  repeat' (first
 | (with_reducible (first | refine sw_reg ?_ | refine sw_ret ?_ | refine sw_skip ?_ | refine sw_block ?_ | refine sw_exit ?_ | refine seqQ_normal ?_ | refine blockQ_normal ?_ | refine blockQ_ret ?_ | refine blockQ_this ?_ | refine blockQ_other (by decide) ?_ | refine regW_nil ?_ | refine sw_draw mixed ?_ | refine retQ_ret ?_ | refine retQ_normal ?_))
 | (with_reducible refine regD_nil ?_
    refine ⟨by kernel_rfl, ?_⟩)
 | (revert h; (first | ((with_reducible refine idx_elim ?_); intro m hm1 hm2 hm3 h; (try (simp only [Int.reduceToNat] at hm3)); (try (revert hm3; (with_reducible apply same_elim); (focus (with_reducible assumption)); rintro rfl)); (try (simp only [List.length_set, List.length_cons, List.length_nil, List.length_replicate, Nat.reduceAdd, Int.cast_ofNat_Int, Nat.zero_add, List.length_append] at hm2))) | (with_reducible refine sidx_elim ?_; intro m hm1 hm3 h) | (with_reducible refine gd_elim ?_; intro hg h; try (have hg2 := hg.2; have hg := hg.1; (try (simp only [Nat.reduceLeDiff] at hg2)); (try (revert hg2; (with_reducible refine toNat_elim hg ?_); intro hg2 hg4)); try (have hg3 := hg2.2; have hg2 := hg2.1; (try (simp only [Nat.reduceLeDiff] at hg3))))) | (with_reducible refine condt_elim ?_ ?_; (focus (with_reducible assumption)); intro h) | (with_reducible refine condf_elim ?_ ?_; (focus (with_reducible assumption)); intro h)))
 | ((with_reducible first | refine pnR ?_ | refine pnE ?_ | refine pmR ?_ | refine pmE ?_)
    obtain rfl := h.get
    have h := hK
    clear hK
    (try (simp only [Sum.elim_inl, Sum.elim_inr] at h)))
 | ((with_reducible refine fi 27 ?_ ?_); (focus (with_reducible assumption))
    first
    | (with_reducible refine here_loop (c := (.seq (.seq (.region 4 _ _) _) _)) ?_
       revert h
       with_reducible refine bind_elimY ?_
       intro o2 h hK
       refine lpA (β := (List (List Int)) × Int) 20000000 (fun x => [(.s 1, some (.v (.d (.row .bor 1 (Rw (cL .bor 1 (cI .i64)) x.2.1))))), (.s 7, some (.v (V.int x.2.2)))]) (fun x => Yes (spec_l06Rest.l2 x.1 x.2.1 x.2.2) o2) (_, _, _) h ?_
       rintro ⟨_ | k, a1, a2⟩ h
       · simp only [spec_l06Rest.l2] at h; exact h.none
       simp only [spec_l06Rest.l2] at h
   )
    | (with_reducible refine here_join (a := (.seq (.region 1 _ _) _)) (b := (.seq (.seq (.region 3 _ _) _) _)) ?_
       revert h
       with_reducible refine bind_elimY ?_
       intro o1 h hK
       unfold spec_l06Rest.a1 at h
       refine sw_join (ι := (List (List Int))) 10000000 (fun x => [(.s 1, some (.v (.d (.row .bor 1 (Rw (cL .bor 1 (cI .i64)) x)))))]) (fun x => Yes (some (.inr x)) o1) ?_ ?_
       rotate_left
       rintro b1 h
       obtain rfl := h.get
       have h := hK
       clear hK
       (try (simp only [Sum.elim_inl, Sum.elim_inr] at h))
       refine sw_gh ?_
       refine gh_sw ?_))
 | ((with_reducible refine fi 38 ?_ ?_); (focus (with_reducible assumption))
    first
    | (with_reducible refine here_loop (c := (.seq (.seq (.region 4 _ _) _) _)) ?_
       revert h
       with_reducible refine bind_elimY ?_
       intro o1 h hK
       refine lpA (β := (List Int) × (List Int) × Int) 10000000 (fun x => [(.s 0, some (.v (.d (.row .bor 1 (Rw (cI .i64) x.2.1))))), (.s 1, some (.v (.d (.row .bor 1 (Rw (cI .i64) x.2.2.1))))), (.s 5, some (.v (V.int x.2.2.2)))]) (fun x => Yes (spec_l06SameNums.l1 x.1 x.2.1 x.2.2.1 x.2.2.2) o1) (_, _, _, _) h ?_
       rintro ⟨_ | k, a1, a2, a3⟩ h
       · simp only [spec_l06SameNums.l1] at h; exact h.none
       simp only [spec_l06SameNums.l1] at h
   ))
 | ((with_reducible refine fi 14 ?_ ?_); (focus (with_reducible assumption))
    first
    | (with_reducible refine here_join (a := (.seq (.region 1 _ _) _)) (b := (.seq (.region 3 _ _) _)) ?_
       revert h
       with_reducible refine bind_elimY ?_
       intro o1 h hK
       unfold laws_lwAt.a1 at h
       refine sw_join (ι := (List Int) × Int × Int) 10000000 (fun x => [(.s 0, some (.v (.d (.row .bor 1 (Rw (cI .u8) x.1))))), (.s 1, some (.v (V.int x.2.1))), (.s 2, some (.v (V.int x.2.2)))]) (fun x => Yes (some (.inr x)) o1) ?_ ?_
       rotate_left
       rintro ⟨b1, b2, b3⟩ h
       obtain rfl := h.get
       have h := hK
       clear hK
       (try (simp only [Sum.elim_inl, Sum.elim_inr] at h))
       refine sw_gh ?_
       refine gh_sw ?_))
 | (with_reducible refine here_next ?_
    first | refine nxA (_, _, _) h | refine nxA (_, _, _, _) h)
 | (with_reducible refine here_meet ?_
    first | refine mtA _ h | refine mtA (_, _, _) h)
 | with_reducible refine sw_seq ?_
 | with_reducible refine seqQ_ret ?_
 | with_reducible refine seqQ_exit ?_
 | ((with_reducible refine fi 83 ?_ ?_); (focus (with_reducible assumption))
    first
    | (with_reducible refine gh_nilRow 2 .own 1 ?_ ?_
       · simp only [lkd, lkb, reduceCtorEq, Nat.reduceEqDiff]; done
       skip))
 | ((with_reducible refine wp_ite ?_ ?_)
    all_goals (intro hc; (try (simp only [Bool.not_eq_true, Bool.not_eq_false] at hc)); simp only [hc]))
 | (with_reducible refine rskip (hs := ?_) (h2 := ?_)
    · simp only [lkd, lkb, reduceCtorEq, Nat.reduceEqDiff]; done)
 | (with_reducible refine ryes (hs := ?_) (h := ?_)
    · simp only [lkd, lkb, reduceCtorEq, Nat.reduceEqDiff]; done)
 | (with_reducible refine rno (hs := ?_) (h := ?_)
    · simp only [lkd, lkb, reduceCtorEq, Nat.reduceEqDiff, Bool.not_true, Bool.not_false]; done)
 | (with_reducible apply regW_guardN
    · simp only [dstOk, Nat.reduceLT]
    · rfl
    · simp only [lkd, lkb, reduceCtorEq, Nat.reduceEqDiff]; rfl
    all_goals (intro hc; (try (simp only [Bool.not_true, Bool.not_false] at hc))))
 | (with_reducible apply sw_cond
    · simp only [lkd, lkb, reduceCtorEq, Nat.reduceEqDiff]; rfl
    all_goals (intro hc; try (cases hc; done)))
 | ((first
     | ((with_reducible refine gh_ret ?_)
        revert h
        with_reducible refine some_elim ?_
        rintro rfl)
     | (with_reducible (first | refine ropD (h := ?_) | refine ropW (h := ?_))
        intro k hk)
     | skip)
    simp only [bn, lkb, evb, evd, Value.oneCell', setSeg, reduceCtorEq, Nat.reduceAdd, Nat.reduceMul, Nat.reduceSub, Nat.reduceLT, Nat.reduceLeDiff, Nat.reduceEqDiff, Int.reduceNeg, Int.reduceToNat, ty2, ty3, ty4, ty5, ty6, ty22, ty26, ty27, ty28, ty30, ty56, ty70, GFrame.cells, GState.cells, cI, cB, cS, cL, GFrame_e, GState_e, LcIi64_e, buildP, buildSliceP, putParts, structPlaces, chunks, List.replicate, List.flatten_nil, List.flatten_cons, Option.bind_some, bb, GFrame_b, shiftBin_shl, shiftBin_shr, intBin_quo, intBin_rem, Int.reduceLT, Int.reduceEq, not_false_eq_true, Int.not_lt, nilEqP, ne_eq, not_false_eq_true, not_true_eq_false, *]
    try (refine hk.use _ _ _ _ ?_; clear hk k))
 | fail)
  all_goals (try rfl)
  all_goals (try (simp; done))
  all_goals (try (simp_all; done))
def c_spec_l06Ends := @And.left _ _ gr6
def c_spec_l06Goes := @And.left _ _ (@And.right _ _ gr6)
def c_spec_l06Nums := @And.left _ _ (@And.right _ _ (@And.right _ _ gr6))
def c_spec_l06Rest := @And.left _ _ (@And.right _ _ (@And.right _ _ (@And.right _ _ gr6)))
def c_spec_l06SameNums := @And.left _ _ (@And.right _ _ (@And.right _ _ (@And.right _ _ (@And.right _ _ gr6))))
def c_spec_l06Trap := @And.left _ _ (@And.right _ _ (@And.right _ _ (@And.right _ _ (@And.right _ _ (@And.right _ _ gr6)))))
def c_laws_lwAt := (@And.right _ _ (@And.right _ _ (@And.right _ _ (@And.right _ _ (@And.right _ _ (@And.right _ _ gr6))))))
end Go.Proofs.YtdlaplgofgklnaaGreat