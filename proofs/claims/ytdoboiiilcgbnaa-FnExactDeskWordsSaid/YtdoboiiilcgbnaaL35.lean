/- WHAT IS PROVED: the shapes of arguments, type by type. Conditions: none. -/
import Derived.Test.YtdoboiiilcgbnaaL34
namespace Go.Proofs.Ytdoboiiilcgbnaa.L
set_option linter.unusedVariables false
set_option linter.unusedSimpArgs false

def i64 (z : Int) : Prop := -9223372036854775808 ≤ z ∧ z ≤ 9223372036854775807

section
variable {P : Program} {m : Nat} {t : TypeId} {ds : List D}

theorem shp_i64 (hu : P.underlying t = some (.int .i64)) (h : Shp P m t ds) : ∃ z : Int, ds = [.p (.int .i64 z)] ∧ i64 z := by
  cases m with
  | zero => cases h
  | succ m =>
    simp only [Shp, hu] at h
    obtain ⟨z, e, hw⟩ := h
    refine ⟨z, e, ?_⟩
    simp [Lit.wf, IntKind.has, IntKind.min, IntKind.max, IntKind.bits, IntKind.signed] at hw
    unfold i64
    omega

theorem shp_bool (hu : P.underlying t = some .bool) (h : Shp P m t ds) : ∃ z : Bool, ds = [.p (.bool z)] := by
  cases m with
  | zero => cases h
  | succ m =>
    simp only [Shp, hu] at h
    exact h

theorem shp_str (hu : P.underlying t = some .string) (h : Shp P m t ds) : ∃ z : ByteArray, ds = [.p (.string z)] ∧ z.size ≤ 9223372036854775807 := by
  cases m with
  | zero => cases h
  | succ m =>
    simp only [Shp, hu] at h
    exact h

theorem shp_struct {fs : Array Field} (hu : P.underlying t = some (.struct fs)) (h : Shp P m t ds) : ∃ k dss, ds = dss.flatten ∧ All2 (fun f d => Shp P k f.type d) fs.toList dss := by
  cases m with
  | zero => cases h
  | succ m =>
    simp only [Shp, hu] at h
    obtain ⟨dss, e, h⟩ := h
    exact ⟨m, dss, e, h⟩

theorem shp_slice {e : TypeId} {α : Type} {f : α → List D} {ok : α → Prop} {s : Nat} (hu : P.underlying t = some (.slice e)) (hs : P.cellsOf e = s) (hf : ∀ k ds, Shp P k e ds → ∃ m, ds = f m ∧ ok m) (h : Shp P m t ds) :
    ∃ l : List α, ds = [.row .bor s (l.map f)] ∧ l.length ≤ 9223372036854775807 ∧ ∀ v ∈ l, ok v := by
  cases m with
  | zero => cases h
  | succ m =>
    simp only [Shp, hu] at h
    obtain ⟨xs, e, hl, h⟩ := h
    obtain ⟨l, rfl, hok⟩ := rows_as (f := f) (ok := ok) (fun y hy => hf m y (h y hy))
    rw [hs] at e
    refine ⟨l, e, ?_, hok⟩
    rw [List.length_map] at hl
    exact hl

theorem shpV_one {x : V} {u : TypeDesc} (hu : P.underlying t = some u) (hn : ∀ fs, u ≠ .struct fs) (h : ShpV P m t x) : ∃ d, x = .d d ∧ Shp P m t [d] := by
  unfold ShpV at h
  rw [hu] at h
  cases u <;> first | exact h | exact absurd rfl (hn _)

theorem shpV_agg {x : V} {fs : Array Field} (hu : P.underlying t = some (.struct fs)) (h : ShpV P m t x) : ∃ ds, x = .agg (ds.map V.d) ∧ Shp P m t ds := by
  unfold ShpV at h
  rw [hu] at h
  exact h

theorem shpV_slice {x : V} {e : TypeId} {α : Type} {f : α → List D} {ok : α → Prop} {s : Nat} (hu : P.underlying t = some (.slice e)) (hs : P.cellsOf e = s) (hf : ∀ k ds, Shp P k e ds → ∃ m, ds = f m ∧ ok m) (h : ShpV P m t x) :
    ∃ l : List α, x = .d (.row .bor s (l.map f)) ∧ l.length ≤ 9223372036854775807 ∧ ∀ v ∈ l, ok v := by
  obtain ⟨d, rfl, h'⟩ := shpV_one hu (fun _ e => by cases e) h
  obtain ⟨l, e, h1, h2⟩ := shp_slice hu hs hf h'
  cases e
  exact ⟨l, rfl, h1, h2⟩

theorem shpV_i64 {x : V} (hu : P.underlying t = some (.int .i64)) (h : ShpV P m t x) : ∃ z : Int, x = .d (.p (.int .i64 z)) ∧ i64 z := by
  obtain ⟨d, rfl, h'⟩ := shpV_one hu (fun _ e => by cases e) h
  obtain ⟨z, e, h1⟩ := shp_i64 hu h'
  cases e
  exact ⟨z, rfl, h1⟩

theorem shpV_str {x : V} (hu : P.underlying t = some .string) (h : ShpV P m t x) : ∃ z : ByteArray, x = .d (.p (.string z)) ∧ z.size ≤ 9223372036854775807 := by
  obtain ⟨d, rfl, h'⟩ := shpV_one hu (fun _ e => by cases e) h
  obtain ⟨z, e, h1⟩ := shp_str hu h'
  cases e
  exact ⟨z, rfl, h1⟩

end
end Go.Proofs.Ytdoboiiilcgbnaa.L
