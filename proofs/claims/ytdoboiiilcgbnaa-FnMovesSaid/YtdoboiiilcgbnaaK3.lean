/- WHAT IS PROVED: contracts of functions of the program, each by a walk of its code. Conditions: none. -/
import Derived.Test.YtdoboiiilcgbnaaK2
namespace Go.Proofs.Ytdoboiiilcgbnaa
open Go.Proofs Go.Proofs.Ytdoboiiilcgbnaa.L
set_option maxHeartbeats 1000000
set_option linter.unusedSimpArgs false
set_option linter.unusedVariables false

open Go.ChangeShapes Go.WideShapes Go.RowKit
set_option maxRecDepth 100000

theorem Try.own : ownKnob Try.prog.godebug = none := by kernel_rfl
theorem Try.laidOut : laidOutB Try.prog = true := by kernel_rfl

theorem shp_vl (m : Nat) (ds : List D) (h : Shp Try.prog m 70 ds) : ∃ v : Vl, ds = [.p (.int .i64 v.kind), .p (.int .i64 v.n)] ∧ i64 v.kind ∧ i64 v.n := by
  obtain ⟨k, dss, rfl, h'⟩ := shp_struct Try.underlying70 h
  cases h' with
  | cons h1 h' => cases h' with
    | cons h2 h' =>
      cases h'
      obtain ⟨k, rfl, w1⟩ := shp_i64 Try.underlying2 h1
      obtain ⟨n, rfl, w2⟩ := shp_i64 Try.underlying2 h2
      exact ⟨⟨k, n⟩, rfl, w1, w2⟩

def Mv.ok (m : Mv) : Prop := i64 m.to ∧ i64 m.src.kind ∧ i64 m.src.n

theorem shp_mv (m : Nat) (ds : List D) (h : Shp Try.prog m 72 ds) : ∃ v : Mv, ds = v.cells ∧ v.ok := by
  obtain ⟨k, dss, rfl, h'⟩ := shp_struct Try.underlying72 h
  cases h' with
  | cons h1 h' => cases h' with
    | cons h2 h' =>
      cases h'
      obtain ⟨k, rfl, w1⟩ := shp_i64 Try.underlying2 h1
      obtain ⟨v, rfl, w2⟩ := shp_vl _ _ h2
      exact ⟨⟨k, v⟩, rfl, w1, w2⟩

theorem shp_mvs {m : Nat} {x : V} (h : ShpV Try.prog m 34 x) : ∃ l : List Mv, x = bRows 3 Mv.cells l ∧ l.length ≤ 9223372036854775807 ∧ ∀ v ∈ l, v.ok :=
  shpV_slice Try.underlying34 (by kernel_rfl) shp_mv h

theorem lend_mv (l : List Mv) : D.lendLL (l.map Mv.cells) = l.map Mv.cells := lendLL_of _ _ (fun _ => rfl) l

end Go.Proofs.Ytdoboiiilcgbnaa
