/- WHAT IS PROVED: the law FnExactRun of the program, for every input. Conditions: none. -/
import Derived.Test.YtdlaplgofgklnaaGreatKs20
namespace Go.Proofs.YtdlaplgofgklnaaGreat
open Go.Proofs Go.Proofs.YtdlaplgofgklnaaGreat.L
set_option maxHeartbeats 1000000
set_option linter.unusedSimpArgs false
set_option linter.unusedVariables false
open Go.ChangeShapes Go.WideShapes Go.RowKit
set_option maxRecDepth 100000
def GI2.ok (x : GI2) : Prop := L.i64 x.a ∧ L.i64 x.b
def GFunc.ok (x : GFunc) : Prop := L.i64 x.args ∧ L.i64 x.locals ∧ (x.code.length ≤ 9223372036854775807 ∧ ∀ z ∈ x.code, z.ok)
def GProgram.ok (x : GProgram) : Prop := (x.funcs.length ≤ 9223372036854775807 ∧ ∀ z ∈ x.funcs, z.ok)
theorem shp_t183 (m : Nat) (ds : List D) (h : Shp Tryz.prog m 183 ds) : ∃ x : GI2, ds = GI2.cells x ∧ x.ok := by
  obtain ⟨k, dss, rfl, h0⟩ := L.shp_struct Tryz.underlying183 h
  cases h0 with
  | cons g0 h1 =>
    cases h1 with
    | cons g1 h2 =>
      cases h2
      obtain ⟨z0, rfl, w0⟩ := L.shp_i64 Tryz.underlying2 g0
      obtain ⟨z1, rfl, w1⟩ := L.shp_i64 Tryz.underlying2 g1
      exact ⟨⟨z0, z1⟩, rfl, w0, w1⟩
theorem el_t183 (m : Nat) (ds : List D) (h : Shp Tryz.prog m 183 ds) : ∃ z : GI2, ds = GI2.cells z ∧ z.ok := by
  obtain ⟨z0, e, w0⟩ := shp_t183 _ _ h
  exact ⟨z0, e, w0⟩
theorem shp_t131 (m : Nat) (ds : List D) (h : Shp Tryz.prog m 131 ds) : ∃ x : GFunc, ds = (GFunc.cells .bor) x ∧ x.ok := by
  obtain ⟨k, dss, rfl, h0⟩ := L.shp_struct Tryz.underlying131 h
  cases h0 with
  | cons g0 h1 =>
    cases h1 with
    | cons g1 h2 =>
      cases h2 with
      | cons g2 h3 =>
        cases h3
        obtain ⟨z0, rfl, w0⟩ := L.shp_i64 Tryz.underlying2 g0
        obtain ⟨z1, rfl, w1⟩ := L.shp_i64 Tryz.underlying2 g1
        obtain ⟨z2, rfl, wl2, wo2⟩ := L.shp_slice (s := 2) (f := GI2.cells) (ok := fun z => z.ok) Tryz.underlying129 (by kernel_rfl) (fun k ds h => el_t183 k ds h) g2
        exact ⟨⟨z0, z1, z2⟩, rfl, w0, w1, ⟨wl2, wo2⟩⟩
theorem el_t131 (m : Nat) (ds : List D) (h : Shp Tryz.prog m 131 ds) : ∃ z : GFunc, ds = (GFunc.cells .bor) z ∧ z.ok := by
  obtain ⟨z0, e, w0⟩ := shp_t131 _ _ h
  exact ⟨z0, e, w0⟩
theorem shp_t40 (m : Nat) (ds : List D) (h : Shp Tryz.prog m 40 ds) : ∃ x : GProgram, ds = (GProgram.cells .bor) x ∧ x.ok := by
  obtain ⟨k, dss, rfl, h0⟩ := L.shp_struct Tryz.underlying40 h
  cases h0 with
  | cons g0 h1 =>
    cases h1
    obtain ⟨z0, rfl, wl0, wo0⟩ := L.shp_slice (s := 3) (f := (GFunc.cells .bor)) (ok := fun z => z.ok) Tryz.underlying38 (by kernel_rfl) (fun k ds h => el_t131 k ds h) g0
    exact ⟨⟨z0⟩, rfl, ⟨wl0, wo0⟩⟩
def GFrame.ok (x : GFrame) : Prop := L.i64 x.func0 ∧ L.i64 x.pc ∧ (x.locals.length ≤ 9223372036854775807 ∧ ∀ z ∈ x.locals, L.i64 z) ∧ (x.stack.length ≤ 9223372036854775807 ∧ ∀ z ∈ x.stack, L.i64 z)
def GState.ok (x : GState) : Prop := (x.frames.length ≤ 9223372036854775807 ∧ ∀ z ∈ x.frames, z.ok) ∧ (x.heap.length ≤ 9223372036854775807 ∧ ∀ z ∈ x.heap, (z.length ≤ 9223372036854775807 ∧ ∀ zz ∈ z, L.i64 zz)) ∧ (x.out.length ≤ 9223372036854775807 ∧ ∀ z ∈ x.out, L.i64 z) ∧ L.i64 x.fuel0 ∧ True ∧ L.i64 x.value ∧ L.i64 x.trap
theorem el_t2 (m : Nat) (ds : List D) (h : Shp Tryz.prog m 2 ds) : ∃ z : Int, ds = (cI .i64) z ∧ L.i64 z := by
  obtain ⟨z0, rfl, w0⟩ := L.shp_i64 Tryz.underlying2 h
  exact ⟨z0, rfl, w0⟩
theorem shp_t133 (m : Nat) (ds : List D) (h : Shp Tryz.prog m 133 ds) : ∃ x : GFrame, ds = (GFrame.cells .bor) x ∧ x.ok := by
  obtain ⟨k, dss, rfl, h0⟩ := L.shp_struct Tryz.underlying133 h
  cases h0 with
  | cons g0 h1 =>
    cases h1 with
    | cons g1 h2 =>
      cases h2 with
      | cons g2 h3 =>
        cases h3 with
        | cons g3 h4 =>
          cases h4
          obtain ⟨z0, rfl, w0⟩ := L.shp_i64 Tryz.underlying2 g0
          obtain ⟨z1, rfl, w1⟩ := L.shp_i64 Tryz.underlying2 g1
          obtain ⟨z2, rfl, wl2, wo2⟩ := L.shp_slice (s := 1) (f := (cI .i64)) (ok := fun z => L.i64 z) Tryz.underlying28 (by kernel_rfl) (fun k ds h => el_t2 k ds h) g2
          obtain ⟨z3, rfl, wl3, wo3⟩ := L.shp_slice (s := 1) (f := (cI .i64)) (ok := fun z => L.i64 z) Tryz.underlying28 (by kernel_rfl) (fun k ds h => el_t2 k ds h) g3
          exact ⟨⟨z0, z1, z2, z3⟩, rfl, w0, w1, ⟨wl2, wo2⟩, ⟨wl3, wo3⟩⟩
theorem el_t133 (m : Nat) (ds : List D) (h : Shp Tryz.prog m 133 ds) : ∃ z : GFrame, ds = (GFrame.cells .bor) z ∧ z.ok := by
  obtain ⟨z0, e, w0⟩ := shp_t133 _ _ h
  exact ⟨z0, e, w0⟩
theorem el_t28 (m : Nat) (ds : List D) (h : Shp Tryz.prog m 28 ds) : ∃ z : (List Int), ds = (cL .bor 1 (cI .i64)) z ∧ (z.length ≤ 9223372036854775807 ∧ ∀ zz ∈ z, L.i64 zz) := by
  obtain ⟨z0, e, wl0, wo0⟩ := L.shp_slice (s := 1) (f := (cI .i64)) (ok := fun z => L.i64 z) Tryz.underlying28 (by kernel_rfl) (fun k ds h => el_t2 k ds h) h
  exact ⟨z0, e, ⟨wl0, wo0⟩⟩
theorem shp_t43 (m : Nat) (ds : List D) (h : Shp Tryz.prog m 43 ds) : ∃ x : GState, ds = (GState.cells .bor) x ∧ x.ok := by
  obtain ⟨k, dss, rfl, h0⟩ := L.shp_struct Tryz.underlying43 h
  cases h0 with
  | cons g0 h1 =>
    cases h1 with
    | cons g1 h2 =>
      cases h2 with
      | cons g2 h3 =>
        cases h3 with
        | cons g3 h4 =>
          cases h4 with
          | cons g4 h5 =>
            cases h5 with
            | cons g5 h6 =>
              cases h6 with
              | cons g6 h7 =>
                cases h7
                obtain ⟨z0, rfl, wl0, wo0⟩ := L.shp_slice (s := 4) (f := (GFrame.cells .bor)) (ok := fun z => z.ok) Tryz.underlying41 (by kernel_rfl) (fun k ds h => el_t133 k ds h) g0
                obtain ⟨z1, rfl, wl1, wo1⟩ := L.shp_slice (s := 1) (f := (cL .bor 1 (cI .i64))) (ok := fun z => (z.length ≤ 9223372036854775807 ∧ ∀ zz ∈ z, L.i64 zz)) Tryz.underlying27 (by kernel_rfl) (fun k ds h => el_t28 k ds h) g1
                obtain ⟨z2, rfl, wl2, wo2⟩ := L.shp_slice (s := 1) (f := (cI .i64)) (ok := fun z => L.i64 z) Tryz.underlying28 (by kernel_rfl) (fun k ds h => el_t2 k ds h) g2
                obtain ⟨z3, rfl, w3⟩ := L.shp_i64 Tryz.underlying2 g3
                obtain ⟨z4, rfl⟩ := L.shp_bool Tryz.underlying4 g4
                obtain ⟨z5, rfl, w5⟩ := L.shp_i64 Tryz.underlying2 g5
                obtain ⟨z6, rfl, w6⟩ := L.shp_i64 Tryz.underlying2 g6
                exact ⟨⟨z0, z1, z2, z3, z4, z5, z6⟩, rfl, ⟨wl0, wo0⟩, ⟨wl1, wo1⟩, ⟨wl2, wo2⟩, w3, trivial, w5, w6⟩
theorem args64_of {p : GProgram} (h : p.ok) : Args64 p := fun f hf => (h.2 f hf).1
theorem codes_of {p : GProgram} (h : p.ok) : ∀ m ∈ p.funcs, m.code.length ≤ 9223372036854775807 := fun f hf => (h.2 f hf).2.2.1
theorem big_of {s : GState} (h : s.ok) : BigS s := ⟨h.1.1, fun f hf => ⟨(h.1.2 f hf).2.2.1.1, (h.1.2 f hf).2.2.2.1⟩, h.2.1.1, fun l hl => (h.2.1.2 l hl).1, h.2.2.1.1⟩
theorem Tryz.own : ownKnob Tryz.prog.godebug = none := by kernel_rfl
theorem Tryz.laidOut : laidOutB Tryz.prog = true := by kernel_rfl
theorem fnExactRun_con (xs : List V) (hs : L.All2 (ShpV Tryz.prog 12) Tryz.f5.params.toList xs) : Con Tryz.prog 5 xs [] (V.bool true) [] := by
  rw [Tryz.params5] at hs
  cases hs with
  | cons s0 t0 =>
    cases t0 with
    | cons s1 t1 =>
      cases t1
      obtain ⟨ds0, rfl, q0⟩ := L.shpV_agg Tryz.underlying40 s0
      obtain ⟨p0, rfl, k0⟩ := shp_t40 _ _ q0
      obtain ⟨ds1, rfl, q1⟩ := L.shpV_agg Tryz.underlying43 s1
      obtain ⟨p1, rfl, k1⟩ := shp_t43 _ _ q1
      obtain ⟨k, hk⟩ := (law_run p0 p1 (args64_of k0) k0.1 (codes_of k0) (big_of k1)).ex
      exact c_laws_FnExactRun hk
theorem fnExactRun_read : ∀ t ∈ Tryz.f5.params.toList, Tryz.prog.readableRec t = true ∧ t < Tryz.prog.types.size := by
  rw [Tryz.params5]
  intro t ht
  simp only [List.mem_cons, List.not_mem_nil, or_false] at ht
  rcases ht with rfl | rfl
  all_goals exact ⟨by kernel_rfl, of_decide_eq_true (by kernel_rfl)⟩
theorem fnExactRun_plain : ∀ t ∈ Tryz.f5.params.toList, plainT Tryz.prog 12 t = true := by
  rw [Tryz.params5]
  intro t ht
  simp only [List.mem_cons, List.not_mem_nil, or_false] at ht
  rcases ht with rfl | rfl
  all_goals kernel_rfl
theorem fnExactRun_lifted (os : Os) (started : os.Started) (H : Type) (enc : TypeId × Value → H) :
    ReturnsInHanded {} Tryz.checked os 5 .any (Rows.fnExactRunSpec.pre6 enc Tryz.prog Tryz.f5 Rows.fnExactRunRow.domain false) (Rows.fnExactRunSpec.post enc Tryz.prog Tryz.f5 false true false false) := by
  refine returnsInHanded_of_change (C := Tryz.checked) Tryz.own started (by kernel_rfl) Tryz.func5
    (ChangeSpec.witness6 (enc := enc) (C := Tryz.checked) false ⟨#[], #[.agg #[.slice none 0 0], .agg #[.slice none 0 0, .slice none 0 0, .slice none 0 0, .int .i64 0, .bool false, .int .i64 0, .int .i64 0]], []⟩ 8 (by kernel_rfl) (by kernel_rfl) (by kernel_rfl) (by kernel_rfl)) ?_
  intro W base args ds gs before hval hW hcnd _
  obtain ⟨p, q, hA0, -⟩ := id hW
  have hB0 : DataW.TrodAll enc Tryz.prog W 0 (fun _ => true) true Tryz.f5.params.toList args.toList ds p := hA0
  rw [Tryz.params5] at hB0
  obtain ⟨v0, vs0, d0, ds0, pa0, pb0, -, rfl, -, -, hB1⟩ := trodAll_cons hB0
  obtain ⟨v1, vs1, d1, ds1, pa1, pb1, -, rfl, -, -, hB2⟩ := trodAll_cons hB1
  obtain ⟨-, rfl, -⟩ := trodAll_nil hB2
  exact row_contract Tryz.laidOut fnExactRun_con fnExactRun_plain fnExactRun_read rfl rfl Tryz.underlying4 rfl hval hW
theorem fnExactRun_holds : Rows.FnExactRunSaid :=
  OpenClaim.holds_of_wide 5 Tryz.f5 rfl rfl rfl rfl rfl rfl rfl ⟨rfl, rfl, rfl, rfl, rfl⟩ rfl rfl rfl rfl rfl (by kernel_rfl) Tryz.func5 (by kernel_rfl)
    (of_decide_eq_true (by kernel_rfl)) (by unfold Func.isWrapper; first | (rw [if_pos (by decide +kernel)]; kernel_rfl) | (rw [if_neg (by decide +kernel)]; exact ⟨rfl, rfl⟩))
    (fun os started H enc _ => fnExactRun_lifted os started H enc)
end Go.Proofs.YtdlaplgofgklnaaGreat