/- WHAT IS PROVED: calls that hand in objects by name. Conditions: none. -/
import Derived.Test.YtdoboiiilcgbnaaL35
namespace Go.Proofs.Ytdoboiiilcgbnaa.L
set_option linter.unusedVariables false
set_option linter.unusedSimpArgs false

theorem renLL_dd (π : Nat → Nat) (ds : List (List D)) : V.renLL π (dd ds) = dd ds := by
  rw [V.renLL_map]
  simp only [dd, List.map_map]
  apply List.map_congr_left
  intro r _
  rw [Function.comp_apply, List.map_map]
  apply List.map_congr_left
  intro x _
  rfl

/-- A call that hands in objects by name; what else is named is lent. -/
theorem call_obj {P : Program} {f : FuncId} {xs ys : List V} {objs objs' : List C} {v : V} {nm : Nat} {st : SL} {R W : List Res} {k : V → SL → List Res → List Res → Prop} (pi : List Nat) (hc : Con P f ys objs v objs')
    (hnd : pi.Nodup) (hnb : (V.namesOfL xs).filter (fun r => !pi.contains r) = [] ∨ (v.nb = true ∧ ∀ o ∈ objs', o.nb = true))
    (h : (argsP (fun i => pi.getD i 0) ((V.namesOfL xs).filter fun r => !pi.contains r) ys xs).wp st R W fun _ st R W => (objsP (fun i => pi.getD i 0) pi objs objs').wp st R W fun _ st R W => (nameAll nm (v.ren fun i => pi.getD i 0)).wp st R W k) : (callP P nm f xs).wp st R W k := by
  simp only [callP, Prog.wp]
  refine ⟨⟨ys, objs, v, objs', pi, (V.namesOfL xs).filter fun r => !pi.contains r⟩, ⟨hc, hnd, ?_, hnb⟩, ?_⟩
  · intro r hr hn
    have := (List.mem_filter.1 hn).2
    simp at this
    exact this hr
  simp only [Prog.wp_bind]
  exact h

/-- the first so many by a rule, the others as they were. -/
def upd' {α : Type} (g : Nat → α) (l : List α) (x : Nat) : List α := (List.range x).map g ++ l.drop x
theorem upd_zero {α : Type} (g : Nat → α) (l : List α) : upd' g l 0 = l := by simp [upd']
theorem upd_length {α : Type} {g : Nat → α} {l : List α} {x : Nat} (h : x ≤ l.length) : (upd' g l x).length = l.length := by simp [upd']; omega
theorem upd_all {α : Type} {g : Nat → α} {l : List α} {x : Nat} (h : l.length ≤ x) (h2 : x ≤ l.length) : upd' g l x = (List.range l.length).map g := by
  have e : x = l.length := by omega
  subst e
  simp [upd']
theorem upd_get {α : Type} {g : Nat → α} {l : List α} {x : Nat} : (upd' g l x)[x]? = l[x]? := by
  unfold upd'
  rw [List.getElem?_append_right (by simp)]
  simp
theorem upd_set {α : Type} {g : Nat → α} {l : List α} {x : Nat} (h : x < l.length) : (upd' g l x).set x (g x) = upd' g l (x + 1) := by
  unfold upd'
  have e : l.drop x = l[x] :: l.drop (x + 1) := List.drop_eq_getElem_cons h
  have e2 : x - ((List.range x).map g).length = 0 := by simp
  rw [List.set_append_right _ _ (by simp), e2, e, List.set_cons_zero, List.range_succ]
  simp
theorem dd_upd_set {α : Type} {l : List α} {g : Nat → α} {f : α → List D} {x : Nat} (h : x < l.length) :
    (dd ((upd' g l x).map f)).set x ((f (g x)).map V.d) = dd ((upd' g l (x + 1)).map f) := by
  rw [dd_set, ← upd_set h, List.map_set]
theorem range_get {α : Type} {g : Nat → α} {n x : Nat} (h : x < n) : ((List.range n).map g)[x]? = some (g x) := by
  rw [List.getElem?_map, List.getElem?_range h]
  rfl
theorem wrapN {k : Nat} (h : k < 4611686018427387904) : IntKind.i64.wrap ((k : Int) + 1) = ((k + 1 : Nat) : Int) := wrapS h

end Go.Proofs.Ytdoboiiilcgbnaa.L
