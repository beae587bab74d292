/- WHAT IS PROVED: the law FnRun of the program, for every input. Conditions: none. -/
import Derived.Test.YtdlaplgofgklnaaGreatKf25
namespace Go.Proofs.YtdlaplgofgklnaaGreat
open Go.Proofs Go.Proofs.YtdlaplgofgklnaaGreat.L
set_option maxHeartbeats 1000000
set_option linter.unusedSimpArgs false
set_option linter.unusedVariables false
open Go.ChangeShapes Go.WideShapes Go.RowKit
set_option maxRecDepth 100000
theorem shp_kind {P : Program} {m : Nat} {t : TypeId} {k : IntKind} {ds : List D} (hu : P.underlying t = some (.int k)) (h : Shp P m t ds) : ∃ z : Int, ds = [.p (.int k z)] ∧ True := by
  cases m with
  | zero => cases h
  | succ m =>
    simp only [Shp, hu] at h
    obtain ⟨z, e, -⟩ := h
    exact ⟨z, e, trivial⟩
theorem el_t5 (m : Nat) (ds : List D) (h : Shp Tryz.prog m 5 ds) : ∃ z : Int, ds = (cI .u8) z ∧ True := by
  obtain ⟨z0, rfl, w0⟩ := shp_kind Tryz.underlying5 h
  exact ⟨z0, rfl, w0⟩
theorem Tryz.own : ownKnob Tryz.prog.godebug = none := by kernel_rfl
theorem Tryz.laidOut : laidOutB Tryz.prog = true := by kernel_rfl
theorem fnRun_con (xs : List V) (hs : L.All2 (ShpV Tryz.prog 12) Tryz.f3.params.toList xs) : Con Tryz.prog 3 xs [] (V.bool true) [] := by
  rw [Tryz.params3] at hs
  cases hs with
  | cons s0 t0 =>
    cases t0 with
    | cons s1 t1 =>
      cases t1
      obtain ⟨p0, rfl, kl0, ko0⟩ := L.shpV_slice (s := 1) (f := (cI .u8)) (ok := fun z => True) Tryz.underlying22 (by kernel_rfl) (fun k ds h => el_t5 k ds h) s0
      obtain ⟨p1, rfl, kl1, ko1⟩ := L.shpV_slice (s := 1) (f := (cI .u8)) (ok := fun z => True) Tryz.underlying22 (by kernel_rfl) (fun k ds h => el_t5 k ds h) s1
      obtain ⟨k, hk⟩ := (law_fnrun p0 p1 kl0 kl1).ex
      exact c_laws_FnRun hk
theorem fnRun_read : ∀ t ∈ Tryz.f3.params.toList, Tryz.prog.readableRec t = true ∧ t < Tryz.prog.types.size := by
  rw [Tryz.params3]
  intro t ht
  simp only [List.mem_cons, List.not_mem_nil, or_false] at ht
  rcases ht with rfl | rfl
  all_goals exact ⟨by kernel_rfl, of_decide_eq_true (by kernel_rfl)⟩
theorem fnRun_plain : ∀ t ∈ Tryz.f3.params.toList, plainT Tryz.prog 12 t = true := by
  rw [Tryz.params3]
  intro t ht
  simp only [List.mem_cons, List.not_mem_nil, or_false] at ht
  rcases ht with rfl | rfl
  all_goals kernel_rfl
theorem fnRun_lifted (os : Os) (started : os.Started) (H : Type) (enc : TypeId × Value → H) :
    ReturnsInHanded {} Tryz.checked os 3 .any (Rows.fnRunSpec.pre6 enc Tryz.prog Tryz.f3 Rows.fnRunRow.domain false) (Rows.fnRunSpec.post enc Tryz.prog Tryz.f3 false true false false) := by
  refine returnsInHanded_of_change (C := Tryz.checked) Tryz.own started (by kernel_rfl) Tryz.func3
    (ChangeSpec.witness6 (enc := enc) (C := Tryz.checked) false ⟨#[], #[.slice none 0 0, .slice none 0 0], []⟩ 8 (by kernel_rfl) (by kernel_rfl) (by kernel_rfl) (by kernel_rfl)) ?_
  intro W base args ds gs before hval hW hcnd _
  obtain ⟨p, q, hA0, -⟩ := id hW
  have hB0 : DataW.TrodAll enc Tryz.prog W 0 (fun _ => true) true Tryz.f3.params.toList args.toList ds p := hA0
  rw [Tryz.params3] at hB0
  obtain ⟨v0, vs0, d0, ds0, pa0, pb0, -, rfl, -, -, hB1⟩ := trodAll_cons hB0
  obtain ⟨v1, vs1, d1, ds1, pa1, pb1, -, rfl, -, -, hB2⟩ := trodAll_cons hB1
  obtain ⟨-, rfl, -⟩ := trodAll_nil hB2
  exact row_contract Tryz.laidOut fnRun_con fnRun_plain fnRun_read rfl rfl Tryz.underlying4 rfl hval hW (fun _ h => nomatch h)
theorem fnRun_holds : Rows.FnRunSaid :=
  OpenClaim.holds_of_wide 3 Tryz.f3 rfl rfl rfl rfl rfl rfl rfl ⟨rfl, rfl, rfl, rfl, rfl⟩ rfl rfl rfl rfl rfl (by kernel_rfl) Tryz.func3 (by kernel_rfl)
    (of_decide_eq_true (by kernel_rfl)) (by unfold Func.isWrapper; first | (rw [if_pos (by decide +kernel)]; kernel_rfl) | (rw [if_neg (by decide +kernel)]; exact ⟨rfl, rfl⟩))
    (fun os started H enc _ => fnRun_lifted os started H enc)
end Go.Proofs.YtdlaplgofgklnaaGreat