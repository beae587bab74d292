/- WHAT IS PROVED: contracts of functions of the program, each by a walk of its code. Conditions: none. -/
import Derived.Test.YtdoboiiilcgbnaaQ4
namespace Go.Proofs.Ytdoboiiilcgbnaa
open Go.Proofs Go.Proofs.Ytdoboiiilcgbnaa.L
set_option maxHeartbeats 1000000
set_option linter.unusedSimpArgs false
set_option linter.unusedVariables false

def mapTo {α : Type} (f : α → α) (l : List α) (w : Nat) : List α := (l.take w).map f ++ l.drop w
theorem mapTo_zero {α : Type} (f : α → α) (l : List α) : mapTo f l 0 = l := by simp [mapTo]
theorem mapTo_length {α : Type} (f : α → α) (l : List α) (w : Nat) : (mapTo f l w).length = l.length := by simp [mapTo]; omega
theorem mapTo_all {α : Type} {f : α → α} {l : List α} {w : Nat} (h : l.length ≤ w) : mapTo f l w = l.map f := by
  simp [mapTo, List.take_of_length_le h, List.drop_eq_nil_of_le h]
theorem mapTo_get {α : Type} {f : α → α} {l : List α} {w : Nat} {m : α} (h : l[w]? = some m) : (mapTo f l w)[w]? = some m := by
  obtain ⟨hw, e⟩ := List.getElem?_eq_some_iff.1 h
  unfold mapTo
  rw [List.getElem?_append_right (by simp; omega)]
  have e2 : w - ((l.take w).map f).length = 0 := by simp; omega
  rw [e2, List.getElem?_drop, Nat.add_zero, h]
theorem mapTo_set {α : Type} {f : α → α} {l : List α} {w : Nat} {m : α} (h : l[w]? = some m) : (mapTo f l w).set w (f m) = mapTo f l (w + 1) := by
  obtain ⟨hw, e⟩ := List.getElem?_eq_some_iff.1 h
  unfold mapTo
  have e2 : w - ((l.take w).map f).length = 0 := by simp; omega
  rw [List.set_append_right _ _ (by simp; omega), e2, drop_cons h, List.set_cons_zero, ← List.take_append_getElem hw, e]
  simp
theorem mapTo_same {α : Type} {f : α → α} {l : List α} {w : Nat} {m : α} (h : l[w]? = some m) (hf : f m = m) : mapTo f l (w + 1) = mapTo f l w := by
  rw [← mapTo_set h, hf]
  obtain ⟨h1, h2⟩ := List.getElem?_eq_some_iff.1 (mapTo_get (f := f) h)
  conv => lhs; rw [← h2]
  exact List.set_getElem_self h1
theorem take_all {l : List Mv} {y : Nat} {q : Mv} {P : Mv → Prop} (h : ∀ n ∈ l.take y, P n) (hq : P q) : ∀ n ∈ l.take y ++ [q], P n := by
  intro n hn
  rcases List.mem_append.1 hn with hn | hn
  · exact h n hn
  · simp at hn; subst hn; exact hq
theorem take_blk {l : List Mv} {y : Nat} {q : Mv} (h : l[y]? = some q) : l.take y ++ [q] = l.take (y + 1) := by
  obtain ⟨hw, e⟩ := List.getElem?_eq_some_iff.1 h
  rw [← List.take_append_getElem hw, e]
theorem nil_of_hc {α : Type} {l : List α} (h : decide (0 < l.length) = false) : l = [] := by
  cases l with
  | nil => rfl
  | cons a l => simp at h
theorem flt_nil : flt [] = [] := rfl
theorem flt_keep {l : List Mv} {x : Nat} {m : Mv} (h : l[x]? = some m) (hs : ¬ m.src = ⟨1, m.to⟩) : flt (l.take (x + 1)) = flt (l.take x) ++ [m] := by
  obtain ⟨hw, e⟩ := List.getElem?_eq_some_iff.1 h
  rw [← List.take_append_getElem hw, e]
  simp [flt, hs]
theorem flt_skip {l : List Mv} {x : Nat} {m : Mv} (h : l[x]? = some m) (hs : m.src = ⟨1, m.to⟩) : flt (l.take (x + 1)) = flt (l.take x) := by
  obtain ⟨hw, e⟩ := List.getElem?_eq_some_iff.1 h
  rw [← List.take_append_getElem hw, e]
  simp [flt, hs]
theorem flt_len (l : List Mv) (x : Nat) : (flt (l.take x)).length ≤ l.length := by
  have h1 : (flt (l.take x)).length ≤ (l.take x).length := List.length_filter_le ..
  have h2 : (l.take x).length ≤ l.length := by simp; omega
  omega
theorem plain_mv (l : List Mv) : D.plainRows (l.map Mv.cells) = True := by
  refine eq_true ?_
  intro r hr x hx
  obtain ⟨m, _, rfl⟩ := List.mem_map.1 hr
  simp [Mv.cells] at hx
  rcases hx with rfl | rfl | rfl <;> rfl
theorem set_dd_cells (l : List Mv) (i : Nat) (a b c : Int) : (dd (l.map Mv.cells)).set i [V.d (D.p (.int .i64 a)), V.d (D.p (.int .i64 b)), V.d (D.p (.int .i64 c))] = dd ((l.set i ⟨a, ⟨b, c⟩⟩).map Mv.cells) := by
  rw [List.map_set, ← dd_set]; rfl

end Go.Proofs.Ytdoboiiilcgbnaa
