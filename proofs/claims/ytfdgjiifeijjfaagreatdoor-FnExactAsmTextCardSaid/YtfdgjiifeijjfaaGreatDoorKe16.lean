/- WHAT IS PROVED: the law FnExactAsmText of the program, for every input. Conditions: none. -/
import Derived.Test.YtfdgjiifeijjfaaGreatDoorKe15
import Derived.Test.YtfdgjiifeijjfaaGreatDoorCards
import Derived.Test.YtfdgjiifeijjfaaGreatDoorTie
import Derived.SevenTiedAt
import Derived.Lib.LaidTab
import Derived.Lib.LaidIn
namespace Go.Proofs.YtfdgjiifeijjfaaGreatDoor
open Go.Proofs Go.Proofs.YtfdgjiifeijjfaaGreatDoor.L
set_option maxHeartbeats 1000000
set_option linter.unusedSimpArgs false
set_option linter.unusedVariables false
open Go.ChangeShapes Go.WideShapes Go.RowKit
set_option maxRecDepth 100000
def GI2.ok (x : GI2) : Prop := L.i64 x.a ∧ L.i64 x.b
def GFunc.ok (x : GFunc) : Prop := L.i64 x.args ∧ L.i64 x.locals ∧ (x.code.length ≤ 9223372036854775807 ∧ ∀ z ∈ x.code, z.ok)
def GProgram.ok (x : GProgram) : Prop := (x.funcs.length ≤ 9223372036854775807 ∧ ∀ z ∈ x.funcs, z.ok)
theorem shp_t132 (m : Nat) (ds : List D) (h : Shp Tryz.prog m 132 ds) : ∃ x : GI2, ds = GI2.cells x ∧ x.ok := by
  obtain ⟨k, dss, rfl, h0⟩ := L.shp_struct Tryz.underlying132 h
  cases h0 with
  | cons g0 h1 =>
    cases h1 with
    | cons g1 h2 =>
      cases h2
      obtain ⟨z0, rfl, w0⟩ := L.shp_i64 Tryz.underlying2 g0
      obtain ⟨z1, rfl, w1⟩ := L.shp_i64 Tryz.underlying2 g1
      exact ⟨⟨z0, z1⟩, rfl, w0, w1⟩
theorem el_t132 (m : Nat) (ds : List D) (h : Shp Tryz.prog m 132 ds) : ∃ z : GI2, ds = GI2.cells z ∧ z.ok := by
  obtain ⟨z0, e, w0⟩ := shp_t132 _ _ h
  exact ⟨z0, e, w0⟩
theorem shp_t69 (m : Nat) (ds : List D) (h : Shp Tryz.prog m 69 ds) : ∃ x : GFunc, ds = (GFunc.cells .bor) x ∧ x.ok := by
  obtain ⟨k, dss, rfl, h0⟩ := L.shp_struct Tryz.underlying69 h
  cases h0 with
  | cons g0 h1 =>
    cases h1 with
    | cons g1 h2 =>
      cases h2 with
      | cons g2 h3 =>
        cases h3
        obtain ⟨z0, rfl, w0⟩ := L.shp_i64 Tryz.underlying2 g0
        obtain ⟨z1, rfl, w1⟩ := L.shp_i64 Tryz.underlying2 g1
        obtain ⟨z2, rfl, wl2, wo2⟩ := L.shp_slice (s := 2) (f := GI2.cells) (ok := fun z => z.ok) Tryz.underlying67 (by kernel_rfl) (fun k ds h => el_t132 k ds h) g2
        exact ⟨⟨z0, z1, z2⟩, rfl, w0, w1, ⟨wl2, wo2⟩⟩
theorem el_t69 (m : Nat) (ds : List D) (h : Shp Tryz.prog m 69 ds) : ∃ z : GFunc, ds = (GFunc.cells .bor) z ∧ z.ok := by
  obtain ⟨z0, e, w0⟩ := shp_t69 _ _ h
  exact ⟨z0, e, w0⟩
theorem shp_t24 (m : Nat) (ds : List D) (h : Shp Tryz.prog m 24 ds) : ∃ x : GProgram, ds = (GProgram.cells .bor) x ∧ x.ok := by
  obtain ⟨k, dss, rfl, h0⟩ := L.shp_struct Tryz.underlying24 h
  cases h0 with
  | cons g0 h1 =>
    cases h1
    obtain ⟨z0, rfl, wl0, wo0⟩ := L.shp_slice (s := 3) (f := (GFunc.cells .bor)) (ok := fun z => z.ok) Tryz.underlying22 (by kernel_rfl) (fun k ds h => el_t69 k ds h) g0
    exact ⟨⟨z0⟩, rfl, ⟨wl0, wo0⟩⟩
def GMov.ok (x : GMov) : Prop := L.i64 x.to ∧ x.from0.ok
def GAsmIns.ok (x : GAsmIns) : Prop := (x.pre.length ≤ 9223372036854775807 ∧ ∀ z ∈ x.pre, z.ok) ∧ L.i64 x.op ∧ L.i64 x.to ∧ (x.l.length ≤ 9223372036854775807 ∧ ∀ z ∈ x.l, z.ok) ∧ L.i64 x.t
def GAsm.ok (x : GAsm) : Prop := L.i64 x.func0 ∧ (x.code.length ≤ 9223372036854775807 ∧ ∀ z ∈ x.code, z.ok) ∧ (x.maps.length ≤ 9223372036854775807 ∧ ∀ z ∈ x.maps, (z.length ≤ 9223372036854775807 ∧ ∀ zz ∈ z, zz.ok))
theorem shp_t113 (m : Nat) (ds : List D) (h : Shp Tryz.prog m 113 ds) : ∃ x : GI2, ds = GI2.cells x ∧ x.ok := by
  obtain ⟨k, dss, rfl, h0⟩ := L.shp_struct Tryz.underlying113 h
  cases h0 with
  | cons g0 h1 =>
    cases h1 with
    | cons g1 h2 =>
      cases h2
      obtain ⟨z0, rfl, w0⟩ := L.shp_i64 Tryz.underlying2 g0
      obtain ⟨z1, rfl, w1⟩ := L.shp_i64 Tryz.underlying2 g1
      exact ⟨⟨z0, z1⟩, rfl, w0, w1⟩
theorem shp_t135 (m : Nat) (ds : List D) (h : Shp Tryz.prog m 135 ds) : ∃ x : GMov, ds = GMov.cells x ∧ x.ok := by
  obtain ⟨k, dss, rfl, h0⟩ := L.shp_struct Tryz.underlying135 h
  cases h0 with
  | cons g0 h1 =>
    cases h1 with
    | cons g1 h2 =>
      cases h2
      obtain ⟨z0, rfl, w0⟩ := L.shp_i64 Tryz.underlying2 g0
      obtain ⟨z1, rfl, w1⟩ := shp_t113 _ _ g1
      exact ⟨⟨z0, z1⟩, rfl, w0, w1⟩
theorem el_t135 (m : Nat) (ds : List D) (h : Shp Tryz.prog m 135 ds) : ∃ z : GMov, ds = GMov.cells z ∧ z.ok := by
  obtain ⟨z0, e, w0⟩ := shp_t135 _ _ h
  exact ⟨z0, e, w0⟩
theorem el_t113 (m : Nat) (ds : List D) (h : Shp Tryz.prog m 113 ds) : ∃ z : GI2, ds = GI2.cells z ∧ z.ok := by
  obtain ⟨z0, e, w0⟩ := shp_t113 _ _ h
  exact ⟨z0, e, w0⟩
theorem shp_t74 (m : Nat) (ds : List D) (h : Shp Tryz.prog m 74 ds) : ∃ x : GAsmIns, ds = (GAsmIns.cells .bor) x ∧ x.ok := by
  obtain ⟨k, dss, rfl, h0⟩ := L.shp_struct Tryz.underlying74 h
  cases h0 with
  | cons g0 h1 =>
    cases h1 with
    | cons g1 h2 =>
      cases h2 with
      | cons g2 h3 =>
        cases h3 with
        | cons g3 h4 =>
          cases h4 with
          | cons g4 h5 =>
            cases h5
            obtain ⟨z0, rfl, wl0, wo0⟩ := L.shp_slice (s := 3) (f := GMov.cells) (ok := fun z => z.ok) Tryz.underlying71 (by kernel_rfl) (fun k ds h => el_t135 k ds h) g0
            obtain ⟨z1, rfl, w1⟩ := L.shp_i64 Tryz.underlying2 g1
            obtain ⟨z2, rfl, w2⟩ := L.shp_i64 Tryz.underlying2 g2
            obtain ⟨z3, rfl, wl3, wo3⟩ := L.shp_slice (s := 2) (f := GI2.cells) (ok := fun z => z.ok) Tryz.underlying72 (by kernel_rfl) (fun k ds h => el_t113 k ds h) g3
            obtain ⟨z4, rfl, w4⟩ := L.shp_i64 Tryz.underlying2 g4
            exact ⟨⟨z0, z1, z2, z3, z4⟩, rfl, ⟨wl0, wo0⟩, w1, w2, ⟨wl3, wo3⟩, w4⟩
theorem el_t74 (m : Nat) (ds : List D) (h : Shp Tryz.prog m 74 ds) : ∃ z : GAsmIns, ds = (GAsmIns.cells .bor) z ∧ z.ok := by
  obtain ⟨z0, e, w0⟩ := shp_t74 _ _ h
  exact ⟨z0, e, w0⟩
theorem el_t72 (m : Nat) (ds : List D) (h : Shp Tryz.prog m 72 ds) : ∃ z : (List GI2), ds = (cL .bor 2 GI2.cells) z ∧ (z.length ≤ 9223372036854775807 ∧ ∀ zz ∈ z, zz.ok) := by
  obtain ⟨z0, e, wl0, wo0⟩ := L.shp_slice (s := 2) (f := GI2.cells) (ok := fun z => z.ok) Tryz.underlying72 (by kernel_rfl) (fun k ds h => el_t113 k ds h) h
  exact ⟨z0, e, ⟨wl0, wo0⟩⟩
theorem shp_t28 (m : Nat) (ds : List D) (h : Shp Tryz.prog m 28 ds) : ∃ x : GAsm, ds = (GAsm.cells .bor) x ∧ x.ok := by
  obtain ⟨k, dss, rfl, h0⟩ := L.shp_struct Tryz.underlying28 h
  cases h0 with
  | cons g0 h1 =>
    cases h1 with
    | cons g1 h2 =>
      cases h2 with
      | cons g2 h3 =>
        cases h3
        obtain ⟨z0, rfl, w0⟩ := L.shp_i64 Tryz.underlying2 g0
        obtain ⟨z1, rfl, wl1, wo1⟩ := L.shp_slice (s := 5) (f := (GAsmIns.cells .bor)) (ok := fun z => z.ok) Tryz.underlying25 (by kernel_rfl) (fun k ds h => el_t74 k ds h) g1
        obtain ⟨z2, rfl, wl2, wo2⟩ := L.shp_slice (s := 1) (f := (cL .bor 2 GI2.cells)) (ok := fun z => (z.length ≤ 9223372036854775807 ∧ ∀ zz ∈ z, zz.ok)) Tryz.underlying26 (by kernel_rfl) (fun k ds h => el_t72 k ds h) g2
        exact ⟨⟨z0, z1, z2⟩, rfl, w0, ⟨wl1, wo1⟩, ⟨wl2, wo2⟩⟩
theorem args64_of {p : GProgram} (h : p.ok) : Args64 p := fun f hf => (h.2 f hf).1
theorem codes_of {p : GProgram} (h : p.ok) : ∀ m ∈ p.funcs, m.code.length ≤ 9223372036854775807 := fun f hf => (h.2 f hf).2.2.1
theorem big_of {a : GAsm} (h : a.ok) : BigA a := ⟨h.1, h.2.1.1, fun x hx => ⟨(h.2.1.2 x hx).1.1, (h.2.1.2 x hx).2.2.2.1.1, (h.2.1.2 x hx).2.2.2.2, fun v hv => (((h.2.1.2 x hx).2.2.2.1.2 v hv)).2, fun m hm => ((h.2.1.2 x hx).1.2 m hm).2.2⟩, h.2.2.1, fun v hv => ⟨(h.2.2.2 v hv).1, fun y hy => ((h.2.2.2 v hv).2 y hy).2⟩⟩
theorem Tryz.own : ownKnob Tryz.prog.godebug = none := by kernel_rfl
theorem Tryz.laidOut : laidOutB Tryz.prog = true := by kernel_rfl
theorem laid_tail {P : Program} {W : World} {x : String × DataW Unit} {rest : List (String × DataW Unit)} (h : laidMet P (x :: rest) W) : laidMet P rest W := by
  obtain ⟨ps, ⟨g, t, cs, fuel, p, q, h1, h2, h3, h4, h5, rfl⟩, h6, h7⟩ := h
  exact ⟨q, h5, (List.nodup_append.1 h6).2.1, fun b off hb => h7 b off (List.mem_append_right _ hb)⟩
theorem fnExactAsmText_con (xs : List V) (hs : L.All2 (ShpV Tryz.prog 12) Tryz.f3.params.toList xs) : Con Tryz.prog 3 xs [] (V.bool true) [] := by
  rw [Tryz.params3] at hs
  cases hs with
  | cons s0 t0 =>
    cases t0 with
    | cons s1 t1 =>
      cases t1
      obtain ⟨ds0, rfl, q0⟩ := L.shpV_agg Tryz.underlying24 s0
      obtain ⟨p0, rfl, k0⟩ := shp_t24 _ _ q0
      obtain ⟨ds1, rfl, q1⟩ := L.shpV_agg Tryz.underlying28 s1
      obtain ⟨p1, rfl, k1⟩ := shp_t28 _ _ q1
      obtain ⟨k, hk⟩ := (law_asmtext p0 p1 (args64_of k0) k0.1 (codes_of k0) (big_of k1)).ex
      exact c_laws_FnExactAsmText hk
theorem fnExactAsmText_read : ∀ t ∈ Tryz.f3.params.toList, Tryz.prog.readableRec t = true ∧ t < Tryz.prog.types.size := by
  rw [Tryz.params3]
  intro t ht
  simp only [List.mem_cons, List.not_mem_nil, or_false] at ht
  rcases ht with rfl | rfl
  all_goals exact ⟨by kernel_rfl, of_decide_eq_true (by kernel_rfl)⟩
theorem fnExactAsmText_plain : ∀ t ∈ Tryz.f3.params.toList, plainT Tryz.prog 12 t = true := by
  rw [Tryz.params3]
  intro t ht
  simp only [List.mem_cons, List.not_mem_nil, or_false] at ht
  rcases ht with rfl | rfl
  all_goals kernel_rfl
theorem Tryz.gT : Tryz.prog.globalNamed "internal/strconv.uint64pow10" = some 0 := by kernel_rfl
theorem Tryz.gTType : (Tryz.prog.globals[0]?).map (·.type) = some 153 := by kernel_rfl
def cellsOfAgg : DataW Unit → Array Value
  | .agg xs => (xs.map fun | .lit (.int k z) => Value.int k z | _ => .int .i64 0).toArray
  | _ => #[]
noncomputable def laidWorld (os : Os) : World :=
  let w0 := World.holding Tryz.prog os ⟨#[], #[], []⟩
  { w0 with heap := (((w0.heap.modify 1 fun
      | .cells _ t z => .cells (cellsOfAgg Rows.laid_math_bits_deBruijn32tab) t z
      | o => o).modify 2 fun
      | .cells _ t z => .cells (cellsOfAgg Rows.laid_math_bits_deBruijn64tab) t z
      | o => o).modify 0 fun
      | .cells _ t z => .cells (cellsOfAgg Rows.laid_internal_strconv_uint64pow10) t z
      | o => o) }
theorem laid_met (os : Os) (args : Array Value) : laidMet Tryz.prog Rows.fnExactAsmTextRow.laid ((laidWorld os).forCall (fun _ _ => 0) ⟨#[], args, []⟩).memory :=
  (LaidIn.of_run [1, 2, 0] 8 (by kernel_rfl) (by kernel_rfl) (by kernel_rfl) (by kernel_rfl)).met
theorem tabs_stand {W : World} (hL : laidMet Tryz.prog Rows.fnExactAsmTextRow.laid W) : TabW W (fun _ => False) (fun k => k < W.heap.size) := by
  have h3 : Lib.TabIs Tryz.prog W "internal/strconv.uint64pow10" .u64 Lib.pow10Tab := Lib.tabIs_of_head Tryz.gT Tryz.gTType Tryz.underlying153 Tryz.underlying142 (by kernel_rfl) (by kernel_rfl) (rest := []) (laid_tail (laid_tail (hL)))
  intro x hx
  obtain rfl := List.mem_singleton.1 hx
  unfold Lib.TabIs World.var? at h3
  rw [Tryz.gT] at h3
  simp only [Option.bind_some] at h3
  cases hb : W.heap[0]? with
  | none => rw [hb] at h3; cases h3
  | some o =>
    rw [hb] at h3
    cases o <;> first | (cases h3; done) | skip
    rename_i cs t z
    simp only [Option.some.injEq] at h3
    subst h3
    exact ⟨(Array.getElem?_eq_some_iff.1 hb).1, fun h => h, t, z, rfl⟩
set_option maxRecDepth 100000 in
theorem fnExactAsmText_lifted (os : Os) (started : os.Started) (H : Type) (enc : TypeId × Value → H) :
    ReturnsInHanded {} Tryz.checked os 3 .any (fun w args => (Rows.fnExactAsmTextSpec.pre enc Tryz.prog Tryz.f3 [] false w args ∧ laidMet Tryz.prog Rows.fnExactAsmTextRow.laid w) ∧ sizedMet enc Tryz.prog Tryz.f3 (OpenSpec.ofChange Rows.fnExactAsmTextSpec) false w args)
      (Rows.fnExactAsmTextSpec.post enc Tryz.prog Tryz.f3 false true false false) := by
  refine returnsInHanded_of_change_and (C := Tryz.checked) (X := fun w _ => laidMet Tryz.prog Rows.fnExactAsmTextRow.laid w) (fun _ _ _ hh h => h.of_heap hh) Tryz.own started (by kernel_rfl) Tryz.func3
    (ChangeSpec.witness_at (enc := enc) (C := Tryz.checked) (os := os) (X := fun w _ => laidMet Tryz.prog Rows.fnExactAsmTextRow.laid w) false (laidWorld os) #[.agg #[.slice none 0 0], .agg #[.int .i64 0, .slice none 0 0, .slice none 0 0]] 8 rfl (by kernel_rfl) (by kernel_rfl) (by kernel_rfl) (by kernel_rfl) (by kernel_rfl) (laid_met os _)) ?_
  intro W base args ds gs before hval hW hcnd _ hL _
  obtain ⟨p, q, hA0, -⟩ := id hW
  have hB0 : DataW.TrodAll enc Tryz.prog W 0 (fun _ => true) true Tryz.f3.params.toList args.toList ds p := hA0
  rw [Tryz.params3] at hB0
  obtain ⟨v0, vs0, d0, ds0, pa0, pb0, -, rfl, -, -, hB1⟩ := trodAll_cons hB0
  obtain ⟨v1, vs1, d1, ds1, pa1, pb1, -, rfl, -, -, hB2⟩ := trodAll_cons hB1
  obtain ⟨-, rfl, -⟩ := trodAll_nil hB2
  exact row_contract Tryz.laidOut fnExactAsmText_con fnExactAsmText_plain fnExactAsmText_read rfl rfl Tryz.underlying4 rfl hval hW (tabs_stand hL)
theorem fnExactAsmText_holds : Rows.FnExactAsmTextSaid :=
  OpenClaim.holds_of_wide 3 Tryz.f3 rfl rfl rfl rfl rfl rfl rfl ⟨rfl, rfl, rfl, rfl, rfl⟩ rfl rfl rfl rfl rfl (by kernel_rfl) Tryz.func3 (by kernel_rfl)
    (of_decide_eq_true (by kernel_rfl)) (by unfold Func.isWrapper; first | (rw [if_pos (by decide +kernel)]; kernel_rfl) | (rw [if_neg (by decide +kernel)]; exact ⟨rfl, rfl⟩))
    (fun os started H enc _ => fnExactAsmText_lifted os started H enc)
theorem fnExactAsmText_card : Rows.FnExactAsmTextCardSaid :=
  Claim7.holds_tied_plain_at .later [] [.data, .data, .data] true (true, "149940af3f1e680c51ae1e452726ac79faab8db98cef81d585ddcfeced3a0d8e") false
    fnExactAsmText_holds (fun _ h => by cases h) (by kernel_rfl) (fun _ h => by cases h) fnExactAsmText_row_tie rfl ⟨rfl, rfl⟩ (by kernel_rfl) rfl
    (fun f fn hf hfn => by
      obtain rfl : f = 3 := Option.some.inj ((show Tryz.prog.funcNamed Rows.fnExactAsmTextRow.func = some 3 by kernel_rfl).symm.trans hf) |>.symm
      obtain rfl : fn = Tryz.f3 := (Option.some.inj (Tryz.func3.symm.trans hfn)).symm
      exact ⟨by kernel_rfl, fun j t ht => by
        have hm : t ∈ Tryz.f3.params.toList := by
          rw [← Array.getElem?_toList] at ht
          exact List.mem_of_getElem? ht
        rw [Tryz.params3] at hm
        simp only [List.mem_cons, List.not_mem_nil, or_false] at hm
        rcases hm with rfl | rfl
        · exact (show Tryz.prog.wantsStandIn 24 = false by kernel_rfl)
        · exact (show Tryz.prog.wantsStandIn 28 = false by kernel_rfl)⟩)
    (by kernel_rfl)
end Go.Proofs.YtfdgjiifeijjfaaGreatDoor